import PyProof.Rows.All
import Wide.All
import OpenK.AllK
import Wide.FinOn
import HandS.ForMost
import HandS.Wide
import HandS.IsInst
import HandS.Zip
import HandS.TupAny
import HandS.Conv
import HandS.SetKeys
import PyProof.ReprRoads
import HandS.Style
import PyProof.ListStr
import HandS.NoneIn
import HandS.SetTxt0
import HandS.SetFor
import HandS.Strs
import PySem.Challenge.RW_whichwalks_k00_integers_names_and_sets
set_option Elab.async false
set_option linter.all false
set_option maxRecDepth 100000
set_option maxHeartbeats 4000000
/-! DL1: deep data over the hand layer: data (Dt), what stands for it (Rep), the state of a body (SR), expressions (Ev). -/
namespace DL
open PySem PySem.Spec PyProof.Rows L2
abbrev St := L2.St

inductive Dt where
  | non | bl (b : Bool) | int (i : Int) | str (x : Str) | ty (n : String) | cls (a : Addr)
  | tup (ds : List Dt) | lst (ds : List Dt) | flst (ds : List Dt)
  | dk (ks : List Key) (vs : List Dt) | dt (ks : List (List Key)) (vs : List Dt)
  | obj (C : Addr) (ns : List Str) (vs : List Dt)

mutual
inductive Rep (K : PySem.W.Frag) (M : Addr → Prop) (H : Hp) : V → Dt → Prop
  | non : Rep K M H .non .non
  | bl (b : Bool) : Rep K M H (.bl b) (.bl b)
  | int (i : Int) : Rep K M H (.int i) (.int i)
  | str (x : Str) : Rep K M H (.str x) (.str x)
  | ty (n : String) : Rep K M H (.ty n) (.ty n)
  | cls (a : Addr) : Rep K M H (.ref a) (.cls a)
  | tup {a : Addr} {xs : List V} {ds : List Dt} : ¬ M a → SqT K H a xs → RepAll K M H xs ds → Rep K M H (.ref a) (.tup ds)
  | lst {a : Addr} {xs : List V} {ds : List Dt} : ¬ M a → H a = some (.lst xs) → RepAll K M H xs ds → Rep K M H (.ref a) (.lst ds)
  | flst {a : Addr} {xs : List V} {ds : List Dt} : ¬ M a → SqL K H a xs → RepAll K M H xs ds → Rep K M H (.ref a) (.flst ds)
  | dk {a : Addr} {ks : List Key} {xs : List V} {ds : List Dt} : ¬ M a → Rd H a (.dK (ks.zip xs)) → ks.length = xs.length → RepAll K M H xs ds → Rep K M H (.ref a) (.dk ks ds)
  | dt {a : Addr} {ks : List (List Key)} {xs : List V} {ds : List Dt} : ¬ M a → Rd H a (.dT (ks.zip xs)) → ks.length = xs.length → RepAll K M H xs ds → Rep K M H (.ref a) (.dt ks ds)
  | obj {a C dx : Addr} {ns : List Str} {xs : List V} {ds : List Dt} : ¬ M a → H a = some (.ins C dx (ns.zip xs)) → ns.length = xs.length → RepAll K M H xs ds → Rep K M H (.ref a) (.obj C ns ds)
inductive RepAll (K : PySem.W.Frag) (M : Addr → Prop) (H : Hp) : List V → List Dt → Prop
  | nil : RepAll K M H [] []
  | cons {v : V} {vs : List V} {d : Dt} {ds : List Dt} : Rep K M H v d → RepAll K M H vs ds → RepAll K M H (v :: vs) (d :: ds)
end

/-- all that is tracked stays, but what stands in M -/
def ExtM (M : Addr → Prop) (H H' : Hp) : Prop := ∀ a o, ¬ M a → H a = some o → H' a = some o
theorem ExtM.refl {M : Addr → Prop} {H : Hp} : ExtM M H H := fun _ _ _ h => h
theorem ExtM.trans {M : Addr → Prop} {H H1 H2 : Hp} (a : ExtM M H H1) (b : ExtM M H1 H2) : ExtM M H H2 := fun c o n h => b c o n (a c o n h)
theorem ExtM.mono {M N : Addr → Prop} {H H1 : Hp} (a : ExtM M H H1) (h : ∀ x, M x → N x) : ExtM N H H1 := fun c o n q => a c o (fun z => n (h c z)) q
theorem ExtM.rd {M : Addr → Prop} {H H' : Hp} (e : ExtM M H H') {a : Addr} {u : HO} (n : ¬ M a) (h : Rd H a u) : Rd H' a u := by
  rcases h with h | ⟨o, h⟩
  · exact .inl (e a _ n h)
  · exact .inr ⟨o, e a _ n h⟩
theorem ExtM.sqL {K : PySem.W.Frag} {M : Addr → Prop} {H H' : Hp} (e : ExtM M H H') {a : Addr} {xs : List V} (n : ¬ M a) (h : SqL K H a xs) : SqL K H' a xs := by
  rcases h with h | h
  · exact .inl (e.rd n h)
  · exact .inr h
theorem ExtM.sqT {K : PySem.W.Frag} {M : Addr → Prop} {H H' : Hp} (e : ExtM M H H') {a : Addr} {xs : List V} (n : ¬ M a) (h : SqT K H a xs) : SqT K H' a xs := by
  rcases h with h | h
  · exact .inl (e.rd n h)
  · exact .inr h
theorem ExtM.new {M : Addr → Prop} {H : Hp} {p : Addr} {o : HO} (h : H p = none) : ExtM M H (upd H p o) := fun a u _ e => by
  rw [upd_ne (ne_of_none e h)]
  exact e
/-- what is in M, or was not tracked, may change -/
theorem ExtM.chg {M : Addr → Prop} {H H' : Hp} {p : Addr} {o : HO} (e : ExtM M H H') (h : M p ∨ H p = none) : ExtM M H (upd H' p o) := fun a u n q => by
  have ne : a ≠ p := fun z => by
    subst z
    rcases h with h | h
    · exact n h
    · rw [h] at q; cases q
  rw [upd_ne ne]
  exact e a u n q

section
variable {K : PySem.W.Frag} {M N : Addr → Prop} {H H' : Hp}
mutual
theorem Rep.ext (e : ExtM M H H') : ∀ {v : V} {d : Dt}, Rep K M H v d → Rep K M H' v d
  | _, _, .non => .non
  | _, _, .bl b => .bl b
  | _, _, .int i => .int i
  | _, _, .str x => .str x
  | _, _, .ty n => .ty n
  | _, _, .cls a => .cls a
  | _, _, .tup n s r => .tup n (e.sqT n s) (RepAll.ext e r)
  | _, _, .lst n s r => .lst n (e _ _ n s) (RepAll.ext e r)
  | _, _, .flst n s r => .flst n (e.sqL n s) (RepAll.ext e r)
  | _, _, .dk n s l r => .dk n (e.rd n s) l (RepAll.ext e r)
  | _, _, .dt n s l r => .dt n (e.rd n s) l (RepAll.ext e r)
  | _, _, .obj n s l r => .obj n (e _ _ n s) l (RepAll.ext e r)
theorem RepAll.ext (e : ExtM M H H') : ∀ {vs : List V} {ds : List Dt}, RepAll K M H vs ds → RepAll K M H' vs ds
  | _, _, .nil => .nil
  | _, _, .cons r t => .cons (Rep.ext e r) (RepAll.ext e t)
end
mutual
/-- less is kept apart -/
theorem Rep.less (h : ∀ a, N a → M a) : ∀ {v : V} {d : Dt}, Rep K M H v d → Rep K N H v d
  | _, _, .non => .non
  | _, _, .bl b => .bl b
  | _, _, .int i => .int i
  | _, _, .str x => .str x
  | _, _, .ty n => .ty n
  | _, _, .cls a => .cls a
  | _, _, .tup n s r => .tup (fun z => n (h _ z)) s (RepAll.less h r)
  | _, _, .lst n s r => .lst (fun z => n (h _ z)) s (RepAll.less h r)
  | _, _, .flst n s r => .flst (fun z => n (h _ z)) s (RepAll.less h r)
  | _, _, .dk n s l r => .dk (fun z => n (h _ z)) s l (RepAll.less h r)
  | _, _, .dt n s l r => .dt (fun z => n (h _ z)) s l (RepAll.less h r)
  | _, _, .obj n s l r => .obj (fun z => n (h _ z)) s l (RepAll.less h r)
theorem RepAll.less (h : ∀ a, N a → M a) : ∀ {vs : List V} {ds : List Dt}, RepAll K M H vs ds → RepAll K N H vs ds
  | _, _, .nil => .nil
  | _, _, .cons r t => .cons (Rep.less h r) (RepAll.less h t)
end
theorem RepAll.length : ∀ {vs : List V} {ds : List Dt}, RepAll K M H vs ds → vs.length = ds.length
  | _, _, .nil => rfl
  | _, _, .cons _ t => by rw [List.length_cons, List.length_cons, RepAll.length t]
theorem RepAll.get : ∀ {vs : List V} {ds : List Dt} {i : Nat} {d : Dt}, RepAll K M H vs ds → ds[i]? = some d → ∃ v, vs[i]? = some v ∧ Rep K M H v d
  | _, _, _, _, .nil, e => by simp at e
  | _, _, 0, _, .cons r _, e => by simp at e; subst e; exact ⟨_, rfl, r⟩
  | _, _, i + 1, _, .cons _ t, e => by
    obtain ⟨v, h1, h2⟩ := RepAll.get (i := i) t (by simpa using e)
    exact ⟨v, by simpa using h1, h2⟩
theorem RepAll.at : ∀ {vs : List V} {ds : List Dt} {i : Nat} {v : V}, RepAll K M H vs ds → vs[i]? = some v → ∃ d, ds[i]? = some d ∧ Rep K M H v d
  | _, _, _, _, .nil, e => by simp at e
  | _, _, 0, _, .cons r _, e => by simp at e; subst e; exact ⟨_, rfl, r⟩
  | _, _, i + 1, _, .cons _ t, e => by
    obtain ⟨v, h1, h2⟩ := RepAll.at (i := i) t (by simpa using e)
    exact ⟨v, by simpa using h1, h2⟩
theorem RepAll.app : ∀ {vs ws : List V} {ds es : List Dt}, RepAll K M H vs ds → RepAll K M H ws es → RepAll K M H (vs ++ ws) (ds ++ es)
  | _, _, _, _, .nil, s => s
  | _, _, _, _, .cons r t, s => .cons r (RepAll.app t s)
theorem RepAll.take : ∀ {vs : List V} {ds : List Dt} (n : Nat), RepAll K M H vs ds → RepAll K M H (vs.take n) (ds.take n)
  | _, _, 0, _ => .nil
  | _, _, _ + 1, .nil => .nil
  | _, _, n + 1, .cons r t => .cons r (RepAll.take n t)
theorem RepAll.drop : ∀ {vs : List V} {ds : List Dt} (n : Nat), RepAll K M H vs ds → RepAll K M H (vs.drop n) (ds.drop n)
  | _, _, 0, r => r
  | _, _, _ + 1, .nil => .nil
  | _, _, n + 1, .cons _ t => RepAll.drop n t
theorem RepAll.set {v : V} {d : Dt} (r : Rep K M H v d) : ∀ {vs : List V} {ds : List Dt} (n : Nat), RepAll K M H vs ds → RepAll K M H (vs.set n v) (ds.set n d)
  | _, _, _, .nil => .nil
  | _, _, 0, .cons _ t => .cons r t
  | _, _, n + 1, .cons q t => .cons q (RepAll.set r n t)
end

/-! ### the state of a body -/
/-- what stands at the draws' mill -/
def MillC (o : Option HO) : Prop := ∃ a b c : Int, o = some (.lst [.int a, .int b, .int c]) ∧ 0 ≤ a ∧ a < 2 ^ 3000 ∧ 0 ≤ b ∧ b < 2 ^ 62

/-- a body's frame: the mill (if any), what the callers keep apart, what this body owns, the heap at the entry -/
structure Fc where
  mo : Addr → Prop
  Mc : Addr → Prop
  O : Addr → Prop
  H0 : Hp
/-- what data keep apart from -/
def Fc.M (F : Fc) : Addr → Prop := fun a => F.Mc a ∨ F.O a
/-- what may change in the body -/
def Fc.Ch (F : Fc) : Addr → Prop := fun a => F.mo a ∨ F.O a
def Fc.add (F : Fc) (p : Addr) : Fc := { F with O := fun a => F.O a ∨ a = p }

inductive Sl where
  | un | dat (d : Dt) | own (p : Addr) (d : Dt) | mil

def Mo (F : Fc) : Addr → Prop := fun a => F.mo a

def OwnR (K : PySem.W.Frag) (M : Addr → Prop) (H : Hp) (p : Addr) : Dt → Prop
  | .lst ds => ∃ xs, H p = some (.lst xs) ∧ RepAll K M H xs ds
  | .dk ks ds => ∃ xs, H p = some (.dK (ks.zip xs)) ∧ ks.length = xs.length ∧ RepAll K M H xs ds
  | .dt ks ds => ∃ xs, H p = some (.dT (ks.zip xs)) ∧ ks.length = xs.length ∧ RepAll K M H xs ds
  | .obj C ns ds => ∃ dx xs, H p = some (.ins C dx (ns.zip xs)) ∧ ns.length = xs.length ∧ RepAll K M H xs ds
  | _ => False

/-- kept: nothing but the mill changes -/
def Kp (F : Fc) (H H' : Hp) : Prop := ExtM (Mo F) H H' ∧ ∀ m, F.mo m → MillC (H' m)

structure SR (K : PySem.W.Frag) (F : Fc) (Γ : List Sl) (σ : St) (H : Hp) : Prop where
  len : Γ.length = σ.length
  ex : ExtM F.Ch F.H0 H
  tr : ∀ a, F.M a → H a ≠ none
  mm : ∀ m, F.mo m → F.M m ∧ MillC (H m)
  dat : ∀ (i : Nat) d, Γ[i]? = some (.dat d) → ∃ v, σ[i]? = some (some v) ∧ Rep K F.M H v d
  own : ∀ (i : Nat) p d, Γ[i]? = some (.own p d) → σ[i]? = some (some (.ref p)) ∧ F.O p ∧ ¬ F.mo p ∧ OwnR K F.M H p d
  inj : ∀ (i j : Nat) p d e, Γ[i]? = some (.own p d) → Γ[j]? = some (.own p e) → i = j
  mil : ∀ (i : Nat), Γ[i]? = some .mil → ∃ m, F.mo m ∧ σ[i]? = some (some (.ref m))

section
variable {K : PySem.W.Frag} {F : Fc} {Γ : List Sl} {σ : St} {H H1 H2 : Hp}
theorem Kp.trans (a : Kp F H H1) (b : Kp F H1 H2) : Kp F H H2 := ⟨a.1.trans b.1, b.2⟩
theorem SR.refl (S : SR K F Γ σ H) : Kp F H H := ⟨.refl, fun m e => (S.mm m e).2⟩
theorem SR.mox (S : SR K F Γ σ H) : ∀ a, Mo F a → F.M a := fun a e => (S.mm a e).1
theorem Kp.extx (S : SR K F Γ σ H) (k : Kp F H H1) : ExtM (F.M) H H1 := k.1.mono S.mox
theorem SR.rep (S : SR K F Γ σ H) (k : Kp F H H1) {v : V} {d : Dt} (r : Rep K (F.M) H v d) : Rep K (F.M) H1 v d := r.ext (k.extx S)
theorem OwnR.tracked {K : PySem.W.Frag} {M : Addr → Prop} {H : Hp} {p : Addr} {d : Dt} (h : OwnR K M H p d) : H p ≠ none := by
  cases d with
  | lst ds => obtain ⟨xs, e, _⟩ := h; rw [e]; simp
  | dk ks ds => obtain ⟨xs, e, _⟩ := h; rw [e]; simp
  | dt ks ds => obtain ⟨xs, e, _⟩ := h; rw [e]; simp
  | obj C ns ds => obtain ⟨_, xs, e, _⟩ := h; rw [e]; simp
  | _ => exact h.elim
theorem OwnR.ext {K : PySem.W.Frag} {M : Addr → Prop} {H H' : Hp} {p : Addr} {d : Dt} (e : ExtM M H H') (hp : ∀ o, H p = some o → H' p = some o) (h : OwnR K M H p d) : OwnR K M H' p d := by
  cases d with
  | lst ds => obtain ⟨xs, q, r⟩ := h; exact ⟨xs, hp _ q, r.ext e⟩
  | dk ks ds => obtain ⟨xs, q, l, r⟩ := h; exact ⟨xs, hp _ q, l, r.ext e⟩
  | dt ks ds => obtain ⟨xs, q, l, r⟩ := h; exact ⟨xs, hp _ q, l, r.ext e⟩
  | obj C ns ds => obtain ⟨dx, xs, q, l, r⟩ := h; exact ⟨dx, xs, hp _ q, l, r.ext e⟩
  | _ => exact h.elim
theorem OwnR.less {K : PySem.W.Frag} {M N : Addr → Prop} {H : Hp} {p : Addr} {d : Dt} (e : ∀ a, N a → M a) (h : OwnR K M H p d) : OwnR K N H p d := by
  cases d with
  | lst ds => obtain ⟨xs, q, r⟩ := h; exact ⟨xs, q, r.less e⟩
  | dk ks ds => obtain ⟨xs, q, l, r⟩ := h; exact ⟨xs, q, l, r.less e⟩
  | dt ks ds => obtain ⟨xs, q, l, r⟩ := h; exact ⟨xs, q, l, r.less e⟩
  | obj C ns ds => obtain ⟨dx, xs, q, l, r⟩ := h; exact ⟨dx, xs, q, l, r.less e⟩
  | _ => exact h.elim
/-- as data -/
theorem OwnR.rep {K : PySem.W.Frag} {M : Addr → Prop} {H : Hp} {p : Addr} {d : Dt} (n : ¬ M p) (h : OwnR K M H p d) : Rep K M H (.ref p) d := by
  cases d with
  | lst ds => obtain ⟨xs, q, r⟩ := h; exact .lst n q r
  | dk ks ds => obtain ⟨xs, q, l, r⟩ := h; exact .dk n (.inl q) l r
  | dt ks ds => obtain ⟨xs, q, l, r⟩ := h; exact .dt n (.inl q) l r
  | obj C ns ds => obtain ⟨dx, xs, q, l, r⟩ := h; exact .obj n q l r
  | _ => exact h.elim
theorem SR.kp (S : SR K F Γ σ H) (k : Kp F H H1) : SR K F Γ σ H1 where
  len := S.len
  ex := S.ex.trans (k.1.mono fun a h => .inl h)
  tr := fun a h => by
    by_cases hm : F.mo a
    · obtain ⟨x, y, z, e, _⟩ := k.2 a hm
      rw [e]; simp
    · cases q : H a with
      | none => exact absurd q (S.tr a h)
      | some o => rw [k.1 a o hm q]; simp
  mm := fun m e => ⟨(S.mm m e).1, k.2 m e⟩
  dat := fun i d e => let ⟨v, a, r⟩ := S.dat i d e; ⟨v, a, S.rep k r⟩
  own := fun i p d e => let ⟨a, o, n, r⟩ := S.own i p d e; ⟨a, o, n, r.ext (k.extx S) fun o q => k.1 p o n q⟩
  inj := S.inj
  mil := S.mil
theorem SR.fresh (S : SR K F Γ σ H) {p : Addr} (h : H p = none) : ¬ F.M p := fun z => S.tr p z h
/-- a new object -/
theorem SR.knew (S : SR K F Γ σ H) {p : Addr} {o : HO} (h : H p = none) : Kp F H (upd H p o) :=
  ⟨.new h, fun m e => by
    have hm := (S.mm m e).2
    have ne : m ≠ p := fun z => by
      subst z
      obtain ⟨_, _, _, q, _⟩ := hm
      rw [h] at q; cases q
    rw [upd_ne ne]
    exact hm⟩
end

/-! ### expressions -/
def tW (X : Cx) (e : Expr) : TE := fun σ H Q => ∀ (pins : List (Addr × Obj)) (s : Shared), Inv X pins σ H s → wpAny (model X.prog X.w) X.A (eval e X.env) (EP X pins σ Q) X.xe s
theorem pe_w {X : Cx} {e : Expr} : PE X e (tW X e) := ⟨fun pins s σ H Q I h => h pins s I⟩
theorem tW.of {X : Cx} {e : Expr} {t : TE} (h : PE X e t) {σ : St} {H : Hp} {Q : VK} (q : t σ H Q) : tW X e σ H Q := fun pins s I => h.run pins s σ H Q I q
theorem tW.mono {X : Cx} {e : Expr} {σ : St} {H : Hp} {Q Q' : VK} (h : tW X e σ H Q) (q : ∀ v H', Q v H' → Q' v H') : tW X e σ H Q' := fun pins s I =>
  thn (h pins s I) fun u s' ⟨v, H', I', r, z⟩ => ⟨v, H', I', r, q v H' z⟩
def tWT (X : Cx) (e : Expr) : TT := fun σ H Q => ∀ (pins : List (Addr × Obj)) (s : Shared), Inv X pins σ H s → wpAny (model X.prog X.w) X.A (isTrue e X.env (eval e X.env)) (TP X pins σ Q) X.xe s
theorem pt_w {X : Cx} {e : Expr} : PT X e (tWT X e) := ⟨fun pins s σ H Q I h => h pins s I⟩
theorem tWT.of {X : Cx} {e : Expr} {t : TT} (h : PT X e t) {σ : St} {H : Hp} {Q : Bool → Hp → Prop} (q : t σ H Q) : tWT X e σ H Q := fun pins s I => h.run pins s σ H Q I q
theorem tWT.mono {X : Cx} {e : Expr} {σ : St} {H : Hp} {Q Q' : Bool → Hp → Prop} (h : tWT X e σ H Q) (q : ∀ v H', Q v H' → Q' v H') : tWT X e σ H Q' := fun pins s I =>
  thn (h pins s I) fun u s' ⟨H', I', z⟩ => ⟨H', I', q u H' z⟩
def tWA (X : Cx) (es : List Expr) : TA := fun σ H Q => ∀ (pos : Pos) (pins : List (Addr × Obj)) (s : Shared), Inv X pins σ H s → wpAny (model X.prog X.w) X.A (spliced (backTo pos (starEach es X.env))) (AP X pins σ Q) X.xe s
theorem pa_w {X : Cx} {es : List Expr} : PA X es (tWA X es) := ⟨fun pos pins s σ H Q I h => h pos pins s I⟩
theorem tWA.of {X : Cx} {es : List Expr} {t : TA} (h : PA X es t) {σ : St} {H : Hp} {Q : List V → Hp → Prop} (q : t σ H Q) : tWA X es σ H Q := fun pos pins s I => h.run pos pins s σ H Q I q
theorem tWA.mono {X : Cx} {e : List Expr} {σ : St} {H : Hp} {Q Q' : List V → Hp → Prop} (h : tWA X e σ H Q) (q : ∀ v H', Q v H' → Q' v H') : tWA X e σ H Q' := fun pos pins s I =>
  thn (h pos pins s I) fun u s' ⟨v, H', I', r, z⟩ => ⟨v, H', I', r, q v H' z⟩

/-- e gives a datum of which P holds -/
def Ev (X : Cx) (F : Fc) (Γ : List Sl) (e : Expr) (P : Dt → Prop) : Prop :=
  ∀ σ H, SR X.K F Γ σ H → tW X e σ H fun v H' => Kp F H H' ∧ ∃ d, Rep X.K (F.M) H' v d ∧ P d
def EvT (X : Cx) (F : Fc) (Γ : List Sl) (e : Expr) (P : Bool → Prop) : Prop :=
  ∀ σ H, SR X.K F Γ σ H → tWT X e σ H fun b H' => Kp F H H' ∧ P b
/-- an argument: a datum, or the mill -/
def RepS (K : PySem.W.Frag) (mo : Addr → Prop) (M : Addr → Prop) (H : Hp) (v : V) : Sl → Prop
  | .dat d => Rep K M H v d
  | .mil => ∃ m, mo m ∧ v = .ref m
  | _ => False
inductive RepSs (K : PySem.W.Frag) (mo : Addr → Prop) (M : Addr → Prop) (H : Hp) : List V → List Sl → Prop
  | nil : RepSs K mo M H [] []
  | cons {v : V} {vs : List V} {d : Sl} {ds : List Sl} : RepS K mo M H v d → RepSs K mo M H vs ds → RepSs K mo M H (v :: vs) (d :: ds)
def EvA (X : Cx) (F : Fc) (Γ : List Sl) (es : List Expr) (P : List Sl → Prop) : Prop :=
  ∀ σ H, SR X.K F Γ σ H → tWA X es σ H fun vs H' => Kp F H H' ∧ ∃ ds, RepSs X.K F.mo (F.M) H' vs ds ∧ P ds
theorem RepS.ext {K : PySem.W.Frag} {mo : Addr → Prop} {M : Addr → Prop} {H H' : Hp} {v : V} {d : Sl} (e : ExtM M H H') (h : RepS K mo M H v d) : RepS K mo M H' v d := by
  cases d with
  | dat d => exact Rep.ext e h
  | mil => exact h
  | un => exact h
  | own p d => exact h
theorem RepSs.length {K : PySem.W.Frag} {mo : Addr → Prop} {M : Addr → Prop} {H : Hp} : ∀ {vs : List V} {ds : List Sl}, RepSs K mo M H vs ds → vs.length = ds.length
  | _, _, .nil => rfl
  | _, _, .cons _ t => by rw [List.length_cons, List.length_cons, RepSs.length t]

section
variable {X : Cx} {F : Fc} {Γ : List Sl} {e a b c : Expr} {es : List Expr} {pos : Pos} {P : Dt → Prop} {PT : Bool → Prop}
theorem Ev.mono {P' : Dt → Prop} (h : Ev X F Γ e P) (q : ∀ d, P d → P' d) : Ev X F Γ e P' := fun σ H S => (h σ H S).mono fun _ _ ⟨k, d, r, p⟩ => ⟨k, d, r, q d p⟩
theorem EvT.mono {P' : Bool → Prop} (h : EvT X F Γ e PT) (q : ∀ d, PT d → P' d) : EvT X F Γ e P' := fun σ H S => (h σ H S).mono fun _ _ ⟨k, p⟩ => ⟨k, q _ p⟩
/-- one after another -/
theorem Ev.then {σ : St} {H : Hp} {Q : VK} (h : Ev X F Γ e P) (S : SR X.K F Γ σ H) (q : ∀ v H1 d, Kp F H H1 → SR X.K F Γ σ H1 → Rep X.K (F.M) H1 v d → P d → Q v H1) : tW X e σ H Q :=
  (h σ H S).mono fun v H1 ⟨k, d, r, p⟩ => q v H1 d k (S.kp k) r p
theorem EvT.then {σ : St} {H : Hp} {Q : Bool → Hp → Prop} (h : EvT X F Γ e PT) (S : SR X.K F Γ σ H) (q : ∀ v H1, Kp F H H1 → SR X.K F Γ σ H1 → PT v → Q v H1) : tWT X e σ H Q :=
  (h σ H S).mono fun v H1 ⟨k, p⟩ => q v H1 k (S.kp k) p

theorem ev_var {i : Nat} {x : Str} {d : Dt} (h : Γ[i]? = some (.dat d)) (p : P d) (hN : X.N[i]? = some x := by rfl) (hv : Vis X.env.scope x := by first | exact Or.inl rfl | exact Or.inr (Or.inl rfl) | exact Or.inr (Or.inr rfl))
    (hd : (x == ("__debug__" : Str)) = false := by decide) (hcd : (x == ("__classdict__" : Str)) = false := by decide) : Ev X F Γ (.Name x pos) P := fun σ H S =>
  tW.of (pe_var (i := i) hN hv hd hcd) (by
    obtain ⟨v, e, r⟩ := S.dat i d h
    exact ⟨v, e, S.refl, d, r, p⟩)
theorem ev_int {i j} (p : P (.int i)) : Ev X F Γ (.Constant (.int i) j pos) P := fun σ H S => tW.of pe_int ⟨S.refl, _, .int i, p⟩
theorem ev_bl {b j} (p : P (.bl b)) : Ev X F Γ (.Constant (.bool b) j pos) P := fun σ H S => tW.of pe_bl ⟨S.refl, _, .bl b, p⟩
theorem ev_non {j} (p : P .non) : Ev X F Γ (.Constant .none j pos) P := fun σ H S => tW.of pe_non ⟨S.refl, _, .non, p⟩
theorem ev_str {x j} (p : P (.str x)) : Ev X F Γ (.Constant (.str x) j pos) P := fun σ H S => tW.of pe_str ⟨S.refl, _, .str x, p⟩
/-- a module's constant -/
theorem ev_glob {x : Str} {d : Dt} {v : V} {u : Value} (hm : X.mg x = some u) (r : RelV v u) (rd : ∀ M H, (∀ a, M a → H a ≠ none) → Rep X.K M H v d) (p : P d) (hg : Gl X x := by rfl) (hd : (x == ("__debug__" : Str)) = false := by decide) : Ev X F Γ (.Name x pos) P := fun σ H S =>
  tW.of (pe_glob hg hm r hd) ⟨S.refl, _, rd _ _ S.tr, p⟩

/-! two-place operations -/
/-- what an operation's reading asks, by data: Q behind it wants what P of the datum says -/
def Wants (K : PySem.W.Frag) (F : Fc) (M : Addr → Prop) (H : Hp) (P : Dt → Prop) (Q : VK) : Prop := ∀ v H' d, Kp F H H' → Rep K M H' v d → P d → Q v H'
/-- an operation on data: r asks of the values no more than f of the data -/
def R2D (X : Cx) (r : R2) (f : Dt → Dt → (Dt → Prop) → Prop) : Prop := ∀ (F : Fc) (Γ : List Sl) (σ : St) (H : Hp) (x y : V) (dx dy : Dt) (P : Dt → Prop) (Q : VK), SR X.K F Γ σ H → Rep X.K (F.M) H x dx → Rep X.K (F.M) H y dy → f dx dy P →
  Wants X.K F (F.M) H P Q → r x y H Q
theorem ev_op2 {E : Expr} {r : R2} {f : Dt → Dt → (Dt → Prop) → Prop} (hr : R2D X r f) (pe : ∀ ta tb, PE X a ta → PE X b tb → PE X E (tOp r ta tb)) (h : Ev X F Γ a fun da => Ev X F Γ b fun db => f da db P) : Ev X F Γ E P := fun σ H S =>
  tW.of (pe _ _ pe_w pe_w) (h.then S fun x H1 da k1 S1 r1 hb => hb.then S1 fun y H2 db k2 S2 r2 hf =>
    hr F Γ σ H2 x y da db P _ S2 (S1.rep k2 r1) r2 hf fun v H3 d k3 r3 p => ⟨(k1.trans k2).trans k3, d, r3, p⟩)
/-- lists of expressions (arguments of built-ins, displays) -/
def EvL (X : Cx) (F : Fc) (Γ : List Sl) (es : List Expr) (P : List Dt → Prop) : Prop :=
  ∀ σ H, SR X.K F Γ σ H → tWA X es σ H fun vs H' => Kp F H H' ∧ ∃ ds, RepAll X.K (F.M) H' vs ds ∧ P ds
theorem EvL.then {σ : St} {H : Hp} {Q : List V → Hp → Prop} {PL : List Dt → Prop} (h : EvL X F Γ es PL) (S : SR X.K F Γ σ H) (q : ∀ v H1 d, Kp F H H1 → SR X.K F Γ σ H1 → RepAll X.K (F.M) H1 v d → PL d → Q v H1) : tWA X es σ H Q :=
  (h σ H S).mono fun v H1 ⟨k, d, r, p⟩ => q v H1 d k (S.kp k) r p
theorem EvA.then {σ : St} {H : Hp} {Q : List V → Hp → Prop} {PL : List Sl → Prop} (h : EvA X F Γ es PL) (S : SR X.K F Γ σ H) (q : ∀ v H1 d, Kp F H H1 → SR X.K F Γ σ H1 → RepSs X.K F.mo (F.M) H1 v d → PL d → Q v H1) : tWA X es σ H Q :=
  (h σ H S).mono fun v H1 ⟨k, d, r, p⟩ => q v H1 d k (S.kp k) r p
theorem evl_nil {PL : List Dt → Prop} (p : PL []) : EvL X F Γ [] PL := fun σ H S => tWA.of pa_nil ⟨S.refl, [], .nil, p⟩
theorem evl_cons {PL : List Dt → Prop} (h : Ev X F Γ e fun d => EvL X F Γ es fun ds => PL (d :: ds)) (hs : starEach (e :: es) X.env = (false, eval e X.env) :: starEach es X.env := by rfl) : EvL X F Γ (e :: es) PL := fun σ H S =>
  tWA.of (pa_cons pe_w pa_w hs) (h.then S fun v H1 d k1 S1 r1 h2 => h2.then S1 fun vs H2 ds k2 S2 r2 p => ⟨k1.trans k2, d :: ds, .cons (S1.rep k2 r1) r2, p⟩)
theorem eva_nil {PL : List Sl → Prop} (p : PL []) : EvA X F Γ [] PL := fun σ H S => tWA.of pa_nil ⟨S.refl, [], .nil, p⟩
theorem eva_cons {PL : List Sl → Prop} (h : Ev X F Γ e fun d => EvA X F Γ es fun ds => PL (.dat d :: ds)) (hs : starEach (e :: es) X.env = (false, eval e X.env) :: starEach es X.env := by rfl) : EvA X F Γ (e :: es) PL := fun σ H S =>
  tWA.of (pa_cons pe_w pa_w hs) (h.then S fun v H1 d k1 S1 r1 h2 => h2.then S1 fun vs H2 ds k2 S2 r2 p => ⟨k1.trans k2, .dat d :: ds, .cons (S1.rep k2 r1) r2, p⟩)
theorem eva_mil {i : Nat} {x : Str} {PL : List Sl → Prop} (hi : Γ[i]? = some .mil) (h : EvA X F Γ es fun ds => PL (.mil :: ds)) (hN : X.N[i]? = some x := by rfl) (hv : Vis X.env.scope x := by first | exact Or.inl rfl | exact Or.inr (Or.inl rfl) | exact Or.inr (Or.inr rfl))
    (hd : (x == ("__debug__" : Str)) = false := by decide) (hcd : (x == ("__classdict__" : Str)) = false := by decide) (hs : starEach (.Name x pos :: es) X.env = (false, eval (.Name x pos) X.env) :: starEach es X.env := by rfl) : EvA X F Γ (.Name x pos :: es) PL := fun σ H S =>
  tWA.of (pa_cons (pe_var (i := i) hN hv hd hcd) pa_w hs) (by
    obtain ⟨m, hm, e⟩ := S.mil i hi
    exact ⟨.ref m, e, h.then S fun vs H2 ds k2 S2 r2 p => ⟨k2, .mil :: ds, .cons ⟨m, hm, rfl⟩ r2, p⟩⟩)
end
end DL
/-! DL2: operations, tests, calls of built-ins, displays on data. -/
namespace DL
open PySem PySem.Spec PyProof.Rows L2

/-- sizes -/
def Sz : Dt → Prop
  | .str x => x.length ≤ sizeLine
  | .lst ds => ds.length ≤ sizeLine
  | .tup ds => ds.length ≤ sizeLine
  | _ => True
theorem sz_small {n : Nat} (h : n ≤ 1000000) : n ≤ sizeLine := Nat.le_trans h (by decide)

section
variable {X : Cx} {F : Fc} {Γ : List Sl} {e a b c : Expr} {es : List Expr} {pos : Pos} {P : Dt → Prop} {PT : Bool → Prop}
theorem R2D.or {r r' : R2} {f f' : Dt → Dt → (Dt → Prop) → Prop} (h : R2D X r f) (h' : R2D X r' f') : R2D X (fun x y H Q => r x y H Q ∨ r' x y H Q) (fun a b P => f a b P ∨ f' a b P) := by
  intro F Γ σ H x y dx dy P Q S rx ry hf w
  rcases hf with hf | hf
  · exact .inl (h F Γ σ H x y dx dy P Q S rx ry hf w)
  · exact .inr (h' F Γ σ H x y dx dy P Q S rx ry hf w)
theorem R2D.imp {r : R2} {f f' : Dt → Dt → (Dt → Prop) → Prop} (h : R2D X r f) (q : ∀ a b P, f' a b P → f a b P) : R2D X r f' := fun F Γ σ H x y dx dy P Q S rx ry hf w => h F Γ σ H x y dx dy P Q S rx ry (q _ _ _ hf) w
/-- ints in, a flat value out -/
theorem r2_I {C : Int → Int → Prop} {g : Int → Int → V} {G : Int → Int → Dt} (hg : ∀ i j K M H, Rep K M H (g i j) (G i j)) : R2D X (rI C g) (fun a b P => ∃ i j, a = .int i ∧ b = .int j ∧ C i j ∧ P (G i j)) := by
  rintro F Γ σ H x y dx dy P Q S rx ry ⟨i, j, rfl, rfl, hc, p⟩ w
  cases rx; cases ry
  exact ⟨i, j, rfl, rfl, hc, w _ _ _ S.refl (hg i j _ _ _) p⟩
theorem r2_I0 {g : Int → Int → V} {G : Int → Int → Dt} (hg : ∀ i j K M H, Rep K M H (g i j) (G i j)) : R2D X (rI0 g) (fun a b P => ∃ i j, a = .int i ∧ b = .int j ∧ P (G i j)) := by
  rintro F Γ σ H x y dx dy P Q S rx ry ⟨i, j, rfl, rfl, p⟩ w
  cases rx; cases ry
  exact ⟨i, j, rfl, rfl, w _ _ _ S.refl (hg i j _ _ _) p⟩
/-- texts in -/
def rS (C : Str → Str → Prop) (g : Str → Str → V) : R2 := fun x y H Q => ∃ i j, x = .str i ∧ y = .str j ∧ C i j ∧ Q (g i j) H
theorem r2_S {C : Str → Str → Prop} {g : Str → Str → V} {G : Str → Str → Dt} (hg : ∀ i j K M H, Rep K M H (g i j) (G i j)) : R2D X (rS C g) (fun a b P => ∃ i j, a = .str i ∧ b = .str j ∧ C i j ∧ P (G i j)) := by
  rintro F Γ σ H x y dx dy P Q S rx ry ⟨i, j, rfl, rfl, hc, p⟩ w
  cases rx; cases ry
  exact ⟨i, j, rfl, rfl, hc, w _ _ _ S.refl (hg i j _ _ _) p⟩
theorem opS {f : Value → Value → Sem Value} {r : R2} {C : Str → Str → Prop} {g : Str → Str → V} (h : OpR X f r) (q : ∀ x y H Q, rS C g x y H Q → r x y H Q) : OpR X f (rS C g) := fun pins s σ H x y v u Q I rx ry z => h pins s σ H x y v u Q I rx ry (q _ _ _ _ z)

/-! + -/
def addD : Dt → Dt → Option Dt
  | .int i, .int j => some (.int (i + j))
  | .str i, .str j => some (.str (i ++ j))
  | .lst i, .lst j => some (.lst (i ++ j))
  | .tup i, .tup j => some (.tup (i ++ j))
  | _, _ => none
theorem op_addS : OpR X (binaryOp .Add) (rS (fun i j => i.length + j.length ≤ sizeLine) fun i j => .str (i ++ j)) := opS op_add_str fun _ _ _ _ z => z
theorem r2_cat : R2D X rCat (fun a b P => ∃ i j, a = .lst i ∧ b = .lst j ∧ i.length + j.length ≤ sizeLine ∧ P (.lst (i ++ j))) := by
  rintro F Γ σ H x y dx dy P Q S rx ry ⟨i, j, rfl, rfl, hc, p⟩ w
  cases rx with
  | @lst a xs _ n1 h1 r1 =>
  cases ry with
  | @lst b ys _ n2 h2 r2 =>
  refine ⟨_, _, _, _, rfl, rfl, h1, h2, by rw [r1.length, r2.length]; exact hc, fun p hp => ?_⟩
  have k := S.knew (o := .lst (xs ++ ys)) hp
  exact w _ _ _ k (.lst (S.fresh hp) upd_same ((r1.app r2).ext (k.extx S))) (by assumption)
theorem r2_catA : R2D X (rCatA X.K) (fun a b P => ∃ i j, a = .tup i ∧ b = .tup j ∧ i.length + j.length ≤ sizeLine ∧ P (.tup (i ++ j))) := by
  rintro F Γ σ H x y dx dy P Q S rx ry ⟨i, j, rfl, rfl, hc, p⟩ w
  cases rx with
  | @tup a xs _ n1 h1 r1 =>
  cases ry with
  | @tup b ys _ n2 h2 r2 =>
  refine ⟨_, _, _, _, rfl, rfl, h1, h2, by rw [r1.length, r2.length]; exact hc, fun e => ?_, fun _ e => ?_, fun _ _ p hp => ?_⟩
  · subst e
    cases r1
    exact w _ _ _ S.refl (.tup n2 h2 r2) p
  · subst e
    cases r2
    rw [List.append_nil] at p
    exact w _ _ _ S.refl (.tup n1 h1 r1) p
  · have k := S.knew (o := .tup (xs ++ ys)) hp
    exact w _ _ _ k (.tup (S.fresh hp) (SqT.of upd_same) ((r1.app r2).ext (k.extx S))) (by assumption)
theorem ev_add (h : Ev X F Γ a fun da => Ev X F Γ b fun db => ∃ d, addD da db = some d ∧ Sz d ∧ P d) : Ev X F Γ (.BinOp a .Add b pos) P := by
  refine ev_op2 (f := fun da db P => ∃ d, addD da db = some d ∧ Sz d ∧ P d) (((((r2_I0 (G := fun i j => .int (i + j)) fun i j K M H => .int _).or (r2_S (G := fun i j => .str (i ++ j)) fun i j K M H => .str _)).or r2_cat).or r2_catA).imp ?_)
    (fun ta tb ha hb => pe_op (((op_add.or op_addS).or op_cat).or op_catA) ha hb) h
  rintro da db P ⟨d, e, z, p⟩
  unfold addD at e
  split at e
  · cases e; exact .inl (.inl (.inl ⟨_, _, rfl, rfl, p⟩))
  · cases e; exact .inl (.inl (.inr ⟨_, _, rfl, rfl, by rename_i i j; have z' : (i ++ j).length ≤ sizeLine := z; simpa [Str.length, Str.cps_append] using z', p⟩))
  · cases e; exact .inl (.inr ⟨_, _, rfl, rfl, by rename_i i j; have z' : (i ++ j).length ≤ sizeLine := z; rwa [List.length_append] at z', p⟩)
  · cases e; exact .inr ⟨_, _, rfl, rfl, by rename_i i j; have z' : (i ++ j).length ≤ sizeLine := z; rwa [List.length_append] at z', p⟩
  · cases e
/-! ints -/
theorem ev_sub (h : Ev X F Γ a fun da => Ev X F Γ b fun db => ∃ i j, da = .int i ∧ db = .int j ∧ P (.int (i - j))) : Ev X F Γ (.BinOp a .Sub b pos) P :=
  ev_op2 (r2_I0 (G := fun i j => .int (i - j)) fun i j K M H => .int _) (fun ta tb ha hb => pe_op op_sub ha hb) h
theorem ev_mod (h : Ev X F Γ a fun da => Ev X F Γ b fun db => ∃ i j, da = .int i ∧ db = .int j ∧ 0 < j ∧ P (.int (i % j))) : Ev X F Γ (.BinOp a .Mod b pos) P :=
  ev_op2 (r2_I (C := fun _ j => 0 < j) (G := fun i j => .int (i % j)) fun i j K M H => .int _) (fun ta tb ha hb => pe_op op_mod ha hb) h
theorem ev_fdiv (h : Ev X F Γ a fun da => Ev X F Γ b fun db => ∃ i j, da = .int i ∧ db = .int j ∧ CDivW i j ∧ P (.int (i / j))) : Ev X F Γ (.BinOp a .FloorDiv b pos) P :=
  ev_op2 (r2_I (C := CDivW) (G := fun i j => .int (i / j)) fun i j K M H => .int _) (fun ta tb ha hb => pe_op op_fdivW ha hb) h
theorem ev_mul (h : Ev X F Γ a fun da => Ev X F Γ b fun db => ∃ i j, da = .int i ∧ db = .int j ∧ CMulW i j ∧ P (.int (i * j))) : Ev X F Γ (.BinOp a .Mult b pos) P :=
  ev_op2 (r2_I (C := CMulW) (G := fun i j => .int (i * j)) fun i j K M H => .int _) (fun ta tb ha hb => pe_op op_mulW ha hb) h
/-- one factor below 2 ^ 64 -/
theorem ev_mulS (h : Ev X F Γ a fun da => Ev X F Γ b fun db => ∃ i j, da = .int i ∧ db = .int j ∧ CMul i j ∧ P (.int (i * j))) : Ev X F Γ (.BinOp a .Mult b pos) P :=
  ev_op2 (r2_I (C := CMul) (G := fun i j => .int (i * j)) fun i j K M H => .int _) (fun ta tb ha hb => pe_op op_mul ha hb) h
def CPw (i j : Int) : Prop := 0 ≤ j ∧ (Builtin.Int.intBits i : Int) * j ≤ 2 ^ 27
theorem op_powW : OpR X (binaryOp .Pow) (rI CPw fun i j => .int (i ^ j.toNat)) := opI fun _ _ _ _ _ _ _ hc q => pow_int hc.1 hc.2 q
theorem ev_pow (h : Ev X F Γ a fun da => Ev X F Γ b fun db => ∃ i j, da = .int i ∧ db = .int j ∧ CPw i j ∧ P (.int (i ^ j.toNat))) : Ev X F Γ (.BinOp a .Pow b pos) P :=
  ev_op2 (r2_I (C := CPw) (G := fun i j => .int (i ^ j.toNat)) fun i j K M H => .int _) (fun ta tb ha hb => pe_op op_powW ha hb) h
/-- text * int -/
def rMulS : R2 := fun x y H Q => ∃ z n, x = .str z ∧ y = .int n ∧ MulOk z n ∧ Q (.str (Txt.mul z n)) H
theorem op_mulStr : OpR X (binaryOp .Mult) rMulS := by
  intro pins s σ H x y v u Q I rx ry h
  obtain ⟨z, n, rfl, rfl, ok, q⟩ := h
  obtain ⟨t, rfl⟩ := rx
  obtain ⟨t', rfl⟩ := ry
  exact SB.mul ok fun t2 k => ⟨.str _, H, I.tok k, ⟨t2, rfl⟩, q⟩
theorem ev_mulStr (h : Ev X F Γ a fun da => Ev X F Γ b fun db => ∃ z n, da = .str z ∧ db = .int n ∧ MulOk z n ∧ P (.str (Txt.mul z n))) : Ev X F Γ (.BinOp a .Mult b pos) P := by
  refine ev_op2 (r := rMulS) (f := fun da db P => ∃ z n, da = .str z ∧ db = .int n ∧ MulOk z n ∧ P (.str (Txt.mul z n))) ?_ (fun ta tb ha hb => pe_op op_mulStr ha hb) h
  rintro F Γ σ H x y dx dy P Q S rx ry ⟨i, j, rfl, rfl, hc, p⟩ w
  cases rx; cases ry
  exact ⟨i, j, rfl, rfl, hc, w _ _ _ S.refl (.str _) p⟩
/-- -a -/
theorem ev_neg (h : Ev X F Γ a fun da => ∃ i, da = .int i ∧ P (.int (-i))) : Ev X F Γ (.UnaryOp .USub a pos) P := fun σ H S =>
  tW.of (pe_un un_neg pe_w) (h.then S fun v H1 d k S1 r p => by
    obtain ⟨i, rfl, p⟩ := p
    cases r
    exact ⟨i, rfl, k, _, .int _, p⟩)

/-! comparisons -/
def ltS (a b : Str) : Bool := decide (a.cps.toList < b.cps.toList)
def cmpD (op : CmpOp) : Dt → Dt → Option Bool
  | .int i, .int j => match op with
    | .Lt => some (decide (i < j)) | .LtE => some (decide (i ≤ j)) | .Gt => some (decide (j < i)) | .GtE => some (decide (j ≤ i)) | _ => none
  | .str i, .str j => match op with
    | .Lt => some (ltS i j) | .LtE => some (!ltS j i) | .Gt => some (ltS j i) | .GtE => some (!ltS i j) | _ => none
  | _, _ => none
def fCmp (op : CmpOp) : Dt → Dt → (Dt → Prop) → Prop := fun da db P => ∃ c, cmpD op da db = some c ∧ P (.bl c)
def rCmp (pi : Int → Int → Bool) (ps : Str → Str → Bool) : R2 := fun x y H Q => rI0 (fun i j => .bl (pi i j)) x y H Q ∨ rS (fun _ _ => True) (fun i j => .bl (ps i j)) x y H Q
theorem op_rc {op : CmpOp} {pi : Int → Int → Bool} {ps : Str → Str → Bool} {r : R2} (h1 : OpR X (compareOp op) (rI0 fun i j => .bl (pi i j))) (h2 : OpR X (compareOp op) r) (q : ∀ x y H Q, rS (fun _ _ => True) (fun i j => .bl (ps i j)) x y H Q → r x y H Q) : OpR X (compareOp op) (rCmp pi ps) := h1.or (opS h2 q)
theorem r2_cmp {op : CmpOp} {pi : Int → Int → Bool} {ps : Str → Str → Bool} (h : ∀ da db c, cmpD op da db = some c → (∃ i j, da = .int i ∧ db = .int j ∧ c = pi i j) ∨ (∃ i j, da = .str i ∧ db = .str j ∧ c = ps i j)) : R2D X (rCmp pi ps) (fCmp op) :=
  ((r2_I0 (G := fun i j => .bl (pi i j)) fun i j K M H => .bl _).or (r2_S (C := fun _ _ => True) (G := fun i j => .bl (ps i j)) fun i j K M H => .bl _)).imp fun da db P ⟨c, e, p⟩ => by
    rcases h da db c e with ⟨i, j, rfl, rfl, rfl⟩ | ⟨i, j, rfl, rfl, rfl⟩
    · exact .inl ⟨i, j, rfl, rfl, p⟩
    · exact .inr ⟨i, j, rfl, rfl, trivial, p⟩
/-- an order of ints or texts: the rule and what it is of data -/
structure CmpR (X : Cx) (op : CmpOp) (r : R2) : Prop where
  ok : OpR X (compareOp op) r
  dt : R2D X r (fCmp op)
  m : ∀ b, behindInMarks op b = false
theorem c_lt : CmpR X .Lt (rCmp (fun i j => decide (i < j)) fun i j => ltS i j) := ⟨op_rc op_lt op_lt_str fun _ _ _ _ ⟨i, j, h1, h2, _, q⟩ => ⟨i, j, h1, h2, q⟩, r2_cmp (fun da db c e => (by
  cases da <;> cases db <;> simp only [cmpD] at e <;> first | (cases e; done) | (cases e; exact .inl ⟨_, _, rfl, rfl, rfl⟩) | (cases e; exact .inr ⟨_, _, rfl, rfl, rfl⟩))), fun b => nomark b⟩
theorem c_le : CmpR X .LtE (rCmp (fun i j => decide (i ≤ j)) fun i j => !ltS j i) := ⟨op_rc op_le op_le_str fun _ _ _ _ ⟨i, j, h1, h2, _, q⟩ => ⟨i, j, h1, h2, q⟩, r2_cmp (fun da db c e => (by
  cases da <;> cases db <;> simp only [cmpD] at e <;> first | (cases e; done) | (cases e; exact .inl ⟨_, _, rfl, rfl, rfl⟩) | (cases e; exact .inr ⟨_, _, rfl, rfl, rfl⟩))), fun b => nomark b⟩
theorem c_gt : CmpR X .Gt (rCmp (fun i j => decide (j < i)) fun i j => ltS j i) := ⟨op_rc op_gt op_gt_str fun _ _ _ _ ⟨i, j, h1, h2, _, q⟩ => ⟨i, j, h1, h2, q⟩, r2_cmp (fun da db c e => (by
  cases da <;> cases db <;> simp only [cmpD] at e <;> first | (cases e; done) | (cases e; exact .inl ⟨_, _, rfl, rfl, rfl⟩) | (cases e; exact .inr ⟨_, _, rfl, rfl, rfl⟩))), fun b => nomark b⟩
theorem c_ge : CmpR X .GtE (rCmp (fun i j => decide (j ≤ i)) fun i j => !ltS i j) := ⟨op_rc op_ge op_ge_str fun _ _ _ _ ⟨i, j, h1, h2, _, q⟩ => ⟨i, j, h1, h2, q⟩, r2_cmp (fun da db c e => (by
  cases da <;> cases db <;> simp only [cmpD] at e <;> first | (cases e; done) | (cases e; exact .inl ⟨_, _, rfl, rfl, rfl⟩) | (cases e; exact .inr ⟨_, _, rfl, rfl, rfl⟩))), fun b => nomark b⟩
theorem ev_cmp {op : CmpOp} {r : R2} (hc : CmpR X op r) (h : Ev X F Γ a fun da => Ev X F Γ b fun db => fCmp op da db P) : Ev X F Γ (.Compare a [op] [b] pos) P :=
  ev_op2 hc.dt (fun ta tb ha hb => pe_cmpR hc.ok ha hb (hc.m _)) h
/-- a < b < c -/
theorem ev_chain {op op' : CmpOp} {r r' : R2} (h1 : CmpR X op r) (h2 : CmpR X op' r') (h : Ev X F Γ a fun da => Ev X F Γ b fun db => ∃ k, cmpD op da db = some k ∧ (k = true → Ev X F Γ c fun dc => fCmp op' db dc P) ∧ (k = false → P (.bl false))) (hm : lastMarks [op, op'] [b, c] = false := by rfl) :
    Ev X F Γ (.Compare a [op, op'] [b, c] pos) P := fun σ H S =>
  tW.of (pe_chain h1.ok h2.ok pe_w pe_w pe_w hm) (h.then S fun x H1 da k1 S1 r1 hb => hb.then S1 fun y H2 db k2 S2 r2 ⟨k, e, ht, hf⟩ =>
    h1.dt F Γ σ H2 x y da db (fun d => d = .bl k) _ S2 (S1.rep k2 r1) r2 ⟨k, e, rfl⟩ fun v H3 d k3 r3 ed => by
      subst ed
      cases r3
      refine ⟨k, rfl, ?_⟩
      have S3 := S2.kp k3
      cases k with
      | true =>
        rw [if_pos rfl]
        exact (ht rfl).then S3 fun z H4 dc k4 S4 r4 hf => h2.dt F Γ σ H4 y z db dc P _ S4 (S3.rep k4 (S2.rep k3 r2)) r4 hf fun v H5 d k5 r5 p => ⟨(((k1.trans k2).trans k3).trans k4).trans k5, d, r5, p⟩
      | false =>
        rw [if_neg Bool.false_ne_true]
        exact ⟨(k1.trans k2).trans k3, _, .bl _, hf rfl⟩)

/-! tests -/
/-- a value that is a truth -/
theorem et_val (h : Ev X F Γ e fun d => ∃ c, d = .bl c ∧ PT c) (he : ∀ whole, isTrue e X.env whole = (do let v ← whole; standAt e.pos; holding [v] (truthy v)) := by intro _; rfl) : EvT X F Γ e PT := fun σ H S =>
  tWT.of (pt_val pe_w he) (h.then S fun v H1 d k S1 r ⟨c, ed, p⟩ => by
    subst ed
    cases r
    exact ⟨c, rfl, k, p⟩)
theorem et_cmp {op : CmpOp} {r : R2} (hc : CmpR X op r) (h : Ev X F Γ a fun da => Ev X F Γ b fun db => ∃ c, cmpD op da db = some c ∧ PT c) : EvT X F Γ (.Compare a [op] [b] pos) PT := fun σ H S =>
  tWT.of (pt_cmpR hc.ok pe_w pe_w (hc.m _)) (h.then S fun x H1 da k1 S1 r1 hb => hb.then S1 fun y H2 db k2 S2 r2 ⟨c, e, p⟩ =>
    hc.dt F Γ σ H2 x y da db (fun d => d = .bl c) _ S2 (S1.rep k2 r1) r2 ⟨c, e, rfl⟩ fun v H3 d k3 r3 ed => by
      subst ed
      cases r3
      exact ⟨c, rfl, (k1.trans k2).trans k3, p⟩)
theorem et_not (h : EvT X F Γ a fun c => PT (!c)) : EvT X F Γ (.UnaryOp .Not a pos) PT := fun σ H S => tWT.of (pt_not pt_w) (h.then S fun c H1 k S1 p => ⟨k, p⟩)
def EvW (X : Cx) (F : Fc) (Γ : List Sl) (e : Expr) (P : Bool → Prop) : Prop := ∀ σ H, SR X.K F Γ σ H → ∀ (wh : Sem Value) (pins : List (Addr × Obj)) (s : Shared), Inv X pins σ H s → wpAny (model X.prog X.w) X.A (isTrue e X.env wh) (TP X pins σ fun b H' => Kp F H H' ∧ P b) X.xe s
theorem EvW.t (h : EvW X F Γ e PT) : EvT X F Γ e PT := fun σ H S pins s I => h σ H S _ pins s I
def tWW (X : Cx) (e : Expr) : TT := fun σ H Q => ∀ (wh : Sem Value) (pins : List (Addr × Obj)) (s : Shared), Inv X pins σ H s → wpAny (model X.prog X.w) X.A (isTrue e X.env wh) (TP X pins σ Q) X.xe s
theorem pw_w : PW X e (tWW X e) := ⟨fun wh pins s σ H Q I h => h wh pins s I⟩
theorem EvW.mono' {σ : St} {H : Hp} {Q : Bool → Hp → Prop} (h : EvW X F Γ e PT) (S : SR X.K F Γ σ H) (q : ∀ v H1, Kp F H H1 → SR X.K F Γ σ H1 → PT v → Q v H1) : tWW X e σ H Q := fun wh pins s I =>
  thn (h σ H S wh pins s I) fun u s' ⟨H', I', k, p⟩ => ⟨H', I', q u H' k (S.kp k) p⟩
theorem EvW.of {t : TT} (h : PW X e t) (q : ∀ σ H, SR X.K F Γ σ H → t σ H fun b H' => Kp F H H' ∧ PT b) : EvW X F Γ e PT := fun σ H S wh pins s I => h.run wh pins s σ H _ I (q σ H S)
variable {rest : List Expr}
theorem ew_and1 (h : EvT X F Γ a PT) : EvW X F Γ (.BoolOp .And [a] pos) PT := EvW.of (pw_and1 pt_w) fun σ H S => h.then S fun c H1 k _ p => ⟨k, p⟩
theorem ew_or1 (h : EvT X F Γ a PT) : EvW X F Γ (.BoolOp .Or [a] pos) PT := EvW.of (pw_or1 pt_w) fun σ H S => h.then S fun c H1 k _ p => ⟨k, p⟩
theorem ew_and (h : EvT X F Γ a fun c => (c = true → EvW X F Γ (.BoolOp .And (b :: rest) pos) PT) ∧ (c = false → PT false)) : EvW X F Γ (.BoolOp .And (a :: b :: rest) pos) PT :=
  EvW.of (pw_and pt_w pw_w) fun σ H S => h.then S fun c H1 k S1 p => by
    cases c with
    | true => rw [if_pos rfl]; exact (p.1 rfl).mono' S1 fun v H2 k2 _ q => ⟨k.trans k2, q⟩
    | false => rw [if_neg Bool.false_ne_true]; exact ⟨k, p.2 rfl⟩
theorem ew_or (h : EvT X F Γ a fun c => (c = true → PT true) ∧ (c = false → EvW X F Γ (.BoolOp .Or (b :: rest) pos) PT)) : EvW X F Γ (.BoolOp .Or (a :: b :: rest) pos) PT :=
  EvW.of (pw_or pt_w pw_w) fun σ H S => h.then S fun c H1 k S1 p => by
    cases c with
    | true => rw [if_pos rfl]; exact ⟨k, p.1 rfl⟩
    | false => rw [if_neg Bool.false_ne_true]; exact (p.2 rfl).mono' S1 fun v H2 k2 _ q => ⟨k.trans k2, q⟩
/-! and, or, not as values: truths -/
theorem ev_one {op} (h : Ev X F Γ a P) : Ev X F Γ (.BoolOp op [a] pos) P := fun σ H S => tW.of (pe_one pe_w) (h.then S fun v H1 d k _ r p => ⟨k, d, r, p⟩)
theorem ev_and (h : Ev X F Γ a fun d => ∃ c, d = .bl c ∧ (c = true → Ev X F Γ (.BoolOp .And (b :: rest) pos) P) ∧ (c = false → P (.bl false))) : Ev X F Γ (.BoolOp .And (a :: b :: rest) pos) P := fun σ H S =>
  tW.of (pe_and pe_w pe_w) (h.then S fun v H1 d k S1 r ⟨c, ed, ht, hf⟩ => by
    subst ed
    cases r
    refine ⟨c, rfl, ?_⟩
    cases c with
    | true => rw [if_pos rfl]; exact (ht rfl).then S1 fun v H2 d k2 _ r p => ⟨k.trans k2, d, r, p⟩
    | false => rw [if_neg Bool.false_ne_true]; exact ⟨k, _, .bl _, hf rfl⟩)
theorem ev_or (h : Ev X F Γ a fun d => ∃ c, d = .bl c ∧ (c = true → P (.bl true)) ∧ (c = false → Ev X F Γ (.BoolOp .Or (b :: rest) pos) P)) : Ev X F Γ (.BoolOp .Or (a :: b :: rest) pos) P := fun σ H S =>
  tW.of (pe_or pe_w pe_w) (h.then S fun v H1 d k S1 r ⟨c, ed, ht, hf⟩ => by
    subst ed
    cases r
    refine ⟨c, rfl, ?_⟩
    cases c with
    | true => rw [if_pos rfl]; exact ⟨k, _, .bl _, ht rfl⟩
    | false => rw [if_neg Bool.false_ne_true]; exact (hf rfl).then S1 fun v H2 d k2 _ r p => ⟨k.trans k2, d, r, p⟩)
theorem ev_not (h : Ev X F Γ a fun d => ∃ c, d = .bl c ∧ P (.bl (!c))) : Ev X F Γ (.UnaryOp .Not a pos) P := fun σ H S =>
  tW.of (pe_not pe_w) (h.then S fun v H1 d k S1 r ⟨c, ed, p⟩ => by
    subst ed
    cases r
    exact ⟨c, rfl, k, _, .bl _, p⟩)
theorem ev_ifExp (h : EvT X F Γ c fun k => (k = true → Ev X F Γ a P) ∧ (k = false → Ev X F Γ b P)) : Ev X F Γ (.IfExp c a b pos) P := fun σ H S =>
  tW.of (pe_ifExp pt_w pe_w pe_w) (h.then S fun k H1 k1 S1 ⟨ht, hf⟩ => by
    cases k with
    | true => rw [if_pos rfl]; exact (ht rfl).then S1 fun v H2 d k2 _ r p => ⟨k1.trans k2, d, r, p⟩
    | false => rw [if_neg Bool.false_ne_true]; exact (hf rfl).then S1 fun v H2 d k2 _ r p => ⟨k1.trans k2, d, r, p⟩)

/-! displays -/
theorem ev_tup {x1} (h : EvL X F Γ es fun ds => ds.length ≤ sizeLine ∧ P (.tup ds)) : Ev X F Γ (.Tuple es x1 pos) P := fun σ H S =>
  tW.of (pe_tup pa_w) (h.then S fun vs H1 ds k S1 r ⟨z, p⟩ => ⟨by rw [r.length]; exact z, fun q hq => by
    have k2 := S1.knew (o := .tup vs) hq
    exact ⟨k.trans k2, _, .tup (S1.fresh hq) (SqT.of upd_same) (r.ext (k2.extx S1)), p⟩⟩)
theorem ev_lst (h : EvL X F Γ es fun ds => ds.length ≤ sizeLine ∧ P (.lst ds)) : Ev X F Γ (.List es pos) P := fun σ H S =>
  tW.of (pe_lst pa_w) (h.then S fun vs H1 ds k S1 r ⟨z, p⟩ => ⟨by rw [r.length]; exact z, fun q hq => by
    have k2 := S1.knew (o := .lst vs) hq
    exact ⟨k.trans k2, _, .lst (S1.fresh hq) upd_same (r.ext (k2.extx S1)), p⟩⟩)

/-! subscripts -/
def ixD : Dt → Dt → Option Dt
  | .lst ds, .int i => atI ds i
  | .flst ds, .int i => atI ds i
  | .tup ds, .int i => atI ds i
  | .str z, .int i => (atI z.cps.toList i).map fun c => .str ⟨#[c]⟩
  | _, _ => none
theorem RepAll.atI {K : PySem.W.Frag} {M : Addr → Prop} {H : Hp} {xs : List V} {ds : List Dt} {i : Int} {d : Dt} (r : RepAll K M H xs ds) (h : L2.atI ds i = some d) : ∃ v, L2.atI xs i = some v ∧ Rep K M H v d := by
  unfold L2.atI at h ⊢
  rw [r.length]
  cases e : ixN ds.length i with
  | none => rw [e] at h; cases h
  | some j =>
    rw [e] at h
    exact r.get h
theorem r2_ix : R2D X (fun x y H Q => (rIxL X.K x y H Q ∨ rIxT X.K x y H Q) ∨ rIxS x y H Q) (fun da db P => ∃ d, ixD da db = some d ∧ Sz da ∧ P d) := by
  rintro F Γ σ H x y dx dy P Q S rx ry ⟨d, e, z, p⟩ w
  cases rx <;> cases ry <;> simp only [ixD] at e <;> try (cases e; done)
  · -- str
    rename_i zz i
    obtain ⟨c, e1, e2⟩ := Option.map_eq_some_iff.mp e
    subst e2
    exact .inr ⟨zz, i, c, rfl, rfl, z, e1, w _ _ _ S.refl (.str _) p⟩
  · -- tup
    rename_i a xs ds n s r i
    obtain ⟨v, h1, h2⟩ := r.atI e
    exact .inl (.inr ⟨a, xs, i, v, rfl, rfl, s, h1, w _ _ _ S.refl h2 p⟩)
  · rename_i a xs ds n s r i
    obtain ⟨v, h1, h2⟩ := r.atI e
    exact .inl (.inl ⟨a, xs, i, v, rfl, rfl, SqL.of s, h1, w _ _ _ S.refl h2 p⟩)
  · rename_i a xs ds n s r i
    obtain ⟨v, h1, h2⟩ := r.atI e
    exact .inl (.inl ⟨a, xs, i, v, rfl, rfl, s, h1, w _ _ _ S.refl h2 p⟩)
theorem ev_ix (h : Ev X F Γ a fun da => Ev X F Γ b fun db => ∃ d, ixD da db = some d ∧ Sz da ∧ P d) (hs : PlainIx b := by exact fun _ _ => rfl) : Ev X F Γ (.Subscript a b pos) P :=
  ev_op2 r2_ix (fun ta tb ha hb => pe_ix ((ix_list.or ix_tup).or ix_str) ha hb hs) h
end
end DL
/-! DL3: calls of built-ins, slices, repr, ==, what is walked, list comprehensions. -/
namespace DL
open PySem PySem.Spec PyProof.Rows L2

section
variable {X : Cx} {F : Fc} {Γ : List Sl} {e a b c : Expr} {es : List Expr} {pos : Pos} {P : Dt → Prop} {PT : Bool → Prop}

/-! ### calls of built-ins -/
def RcD (X : Cx) (r : List V → Hp → VK → Prop) (f : List Dt → (Dt → Prop) → Prop) : Prop := ∀ (F : Fc) (Γ : List Sl) (σ : St) (H : Hp) (xs : List V) (ds : List Dt) (P : Dt → Prop) (Q : VK), SR X.K F Γ σ H → RepAll X.K F.M H xs ds → f ds P → Wants X.K F F.M H P Q → r xs H Q
theorem ev_callB {x : Str} {p : Pos} {id : String} {r : List V → Hp → VK → Prop} {f : List Dt → (Dt → Prop) → Prop} (hc : CallR X (.builtin id) r) (hr : RcD X r f) (hm : X.mg x = none) (h : EvL X F Γ (e :: es) fun ds => f ds P)
    (hv : bootBuiltins x = some (.builtin id) := by decide +kernel) (hg : Gl X x := by rfl) (hn : x ≠ "__name__" := by decide) (hdb : (x == ("__debug__" : Str)) = false := by decide)
    (he : starEach (e :: es) X.env = (false, eval e X.env) :: starEach es X.env := by first | assumption | rfl) (hpl : (backTo pos (starEach es X.env)).any (·.1) = false := by first | rfl | assumption) : Ev X F Γ (.Call (.Name x p) (e :: es) [] pos) P := fun σ H S =>
  tW.of (pe_callB hc hg hm hv pa_w hn hdb he hpl) (h.then S fun vs H1 ds k S1 r1 hf => hr F Γ σ H1 vs ds P _ S1 r1 hf fun v H2 d k2 r2 p => ⟨k.trans k2, d, r2, p⟩)
theorem ev_callTy {x : Str} {p : Pos} {T : String} {r : List V → Hp → VK → Prop} {f : List Dt → (Dt → Prop) → Prop} (hc : CallR X (.type T) r) (hr : RcD X r f) (hm : X.mg x = none) (h : EvL X F Γ (e :: es) fun ds => f ds P)
    (hv : bootBuiltins x = some (.type T) := by decide +kernel) (hg : Gl X x := by rfl) (hn : x ≠ "__name__" := by decide) (hdb : (x == ("__debug__" : Str)) = false := by decide)
    (he : starEach (e :: es) X.env = (false, eval e X.env) :: starEach es X.env := by first | assumption | rfl) (hpl : (backTo pos (starEach es X.env)).any (·.1) = false := by first | rfl | assumption) : Ev X F Γ (.Call (.Name x p) (e :: es) [] pos) P := fun σ H S =>
  tW.of (pe_callTy hc hg hm hv pa_w hn hdb he hpl) (h.then S fun vs H1 ds k S1 r1 hf => hr F Γ σ H1 vs ds P _ S1 r1 hf fun v H2 d k2 r2 p => ⟨k.trans k2, d, r2, p⟩)
/-- a built-in type as a value -/
theorem ev_bltn {x : Str} {n : String} (hm : X.mg x = none) (p : P (.ty n)) (hv : bootBuiltins x = some (.type n) := by decide +kernel) (hg : Gl X x := by rfl) (hn : x ≠ "__name__" := by decide) (hd : (x == ("__debug__" : Str)) = false := by decide) : Ev X F Γ (.Name x pos) P := fun σ H S =>
  tW.of (pe_bltn (v := .ty n) hg hm hv rfl hn hd) ⟨S.refl, _, .ty n, p⟩

theorem rc_one {f : List V → Hp → VK → Prop} {g : List Dt → (Dt → Prop) → Prop} (h : ∀ F Γ σ H xs ds P Q, SR X.K F Γ σ H → RepAll X.K F.M H xs ds → g ds P → Wants X.K F F.M H P Q → f xs H Q) : RcD X f g := h

def lenD : Dt → Option Nat
  | .str z => some z.length
  | .lst ds => some ds.length
  | .flst ds => some ds.length
  | .tup ds => some ds.length
  | _ => none
def fLen (ds : List Dt) (P : Dt → Prop) : Prop := ∃ d n, ds = [d] ∧ lenD d = some n ∧ Sz d ∧ P (.int n)
theorem rc_len : RcD X (fun xs H Q => ∃ x n, xs = [x] ∧ LenV X.K x H n ∧ Q (.int n) H) fLen := by
  rintro F Γ σ H xs ds P Q S r ⟨d, n, rfl, e, z, p⟩ w
  cases r with
  | cons r1 r2 =>
    cases r2
    cases r1 <;> simp only [lenD] at e <;> try (cases e; done)
    · cases e; exact ⟨_, _, rfl, ⟨z, rfl⟩, w _ _ _ S.refl (.int _) p⟩
    · rename_i n s r
      cases e; exact ⟨_, _, rfl, .inr ⟨_, s, rfl⟩, w _ _ _ S.refl (.int _) (by rw [r.length]; exact p)⟩
    · rename_i n s r
      cases e; exact ⟨_, _, rfl, .inl ⟨_, SqL.of s, rfl⟩, w _ _ _ S.refl (.int _) (by rw [r.length]; exact p)⟩
    · rename_i n s r
      cases e; exact ⟨_, _, rfl, .inl ⟨_, s, rfl⟩, w _ _ _ S.refl (.int _) (by rw [r.length]; exact p)⟩
theorem ev_len {x : Expr} {p : Pos} (hm : X.mg "len" = none) (h : Ev X F Γ x fun d => ∃ n, lenD d = some n ∧ Sz d ∧ P (.int n)) (hg : Gl X "len" := by rfl) (he : starEach [x] X.env = (false, eval x X.env) :: starEach [] X.env := by rfl) : Ev X F Γ (.Call (.Name "len" p) [x] [] pos) P :=
  ev_callB call_len rc_len hm (evl_cons (h.mono fun d ⟨n, e, z, p⟩ => evl_nil ⟨d, n, rfl, e, z, p⟩) he) PySem.boot_len hg
def intD : Dt → Option Int
  | .int i => some i
  | .bl k => some (if k then 1 else 0)
  | _ => none
theorem ev_intof {x : Expr} {p : Pos} (hm : X.mg "int" = none) (h : Ev X F Γ x fun d => ∃ n, intD d = some n ∧ P (.int n)) (hg : Gl X "int" := by rfl) (he : starEach [x] X.env = (false, eval x X.env) :: starEach [] X.env := by rfl) : Ev X F Γ (.Call (.Name "int" p) [x] [] pos) P := by
  refine ev_callTy (f := fun ds P => ∃ d n, ds = [d] ∧ intD d = some n ∧ P (.int n)) call_int1 ?_ hm (evl_cons (h.mono fun d ⟨n, e, p⟩ => evl_nil ⟨d, n, rfl, e, p⟩) he) (by decide +kernel) hg
  rintro F Γ σ H xs ds P Q S r ⟨d, n, rfl, e, p⟩ w
  cases r with
  | cons r1 r2 =>
    cases r2
    cases r1 <;> simp only [intD] at e <;> try (cases e; done)
    · cases e; exact .inr ⟨_, rfl, w _ _ _ S.refl (.int _) p⟩
    · cases e; exact .inl ⟨_, rfl, w _ _ _ S.refl (.int _) p⟩
theorem ev_abs {x : Expr} {p : Pos} (hm : X.mg "abs" = none) (h : Ev X F Γ x fun d => ∃ i, d = .int i ∧ P (.int (if i < 0 then -i else i))) (hg : Gl X "abs" := by rfl) (he : starEach [x] X.env = (false, eval x X.env) :: starEach [] X.env := by rfl) : Ev X F Γ (.Call (.Name "abs" p) [x] [] pos) P := by
  refine ev_callB (f := fun ds P => ∃ i, ds = [.int i] ∧ P (.int (if i < 0 then -i else i))) call_abs ?_ hm (evl_cons (h.mono fun d ⟨i, e, p⟩ => evl_nil ⟨i, by rw [e], p⟩) he) (by decide +kernel) hg
  rintro F Γ σ H xs ds P Q S r ⟨i, rfl, p⟩ w
  cases r with
  | cons r1 r2 => cases r2; cases r1; exact ⟨i, rfl, w _ _ _ S.refl (.int _) p⟩
theorem ev_max2 {x y : Expr} {p : Pos} (hm : X.mg "max" = none) (h : EvL X F Γ [x, y] fun ds => ∃ i j, ds = [.int i, .int j] ∧ P (.int (if j > i then j else i))) (hc : X.calm = true := by rfl) (hg : Gl X "max" := by rfl)
    (he : starEach [x, y] X.env = (false, eval x X.env) :: starEach [y] X.env := by rfl) (hpl : (backTo pos (starEach [y] X.env)).any (·.1) = false := by rfl) : Ev X F Γ (.Call (.Name "max" p) [x, y] [] pos) P := by
  refine ev_callB (f := fun ds P => ∃ i j, ds = [.int i, .int j] ∧ P (.int (if j > i then j else i))) (call_max2 hc) ?_ hm h (by decide +kernel) hg (by decide) (by decide) he hpl
  rintro F Γ σ H xs ds P Q S r ⟨i, j, rfl, p⟩ w
  cases r with
  | cons r1 r2 => cases r2 with | cons r2 r3 => cases r3; cases r1; cases r2; exact ⟨i, j, rfl, w _ _ _ S.refl (.int _) p⟩
theorem ev_min2 {x y : Expr} {p : Pos} (hm : X.mg "min" = none) (h : EvL X F Γ [x, y] fun ds => ∃ i j, ds = [.int i, .int j] ∧ P (.int (if j < i then j else i))) (hc : X.calm = true := by rfl) (hg : Gl X "min" := by rfl)
    (he : starEach [x, y] X.env = (false, eval x X.env) :: starEach [y] X.env := by rfl) (hpl : (backTo pos (starEach [y] X.env)).any (·.1) = false := by rfl) : Ev X F Γ (.Call (.Name "min" p) [x, y] [] pos) P := by
  refine ev_callB (f := fun ds P => ∃ i j, ds = [.int i, .int j] ∧ P (.int (if j < i then j else i))) (call_min2 hc) ?_ hm h (by decide +kernel) hg (by decide) (by decide) he hpl
  rintro F Γ σ H xs ds P Q S r ⟨i, j, rfl, p⟩ w
  cases r with
  | cons r1 r2 => cases r2 with | cons r2 r3 => cases r3; cases r1; cases r2; exact ⟨i, j, rfl, w _ _ _ S.refl (.int _) p⟩

/-! isinstance with a built-in type -/
def tyN : Dt → String
  | .non => "NoneType" | .bl _ => "bool" | .int _ => "int" | .str _ => "str" | .lst _ => "list" | .flst _ => "list" | .tup _ => "tuple" | .dk _ _ => "dict" | .dt _ _ => "dict" | _ => ""
def plainT : Dt → Bool
  | .ty _ => false | .cls _ => false | .obj _ _ _ => false | .dt _ _ => false | _ => true
theorem Rep.tyx {K : PySem.W.Frag} {M : Addr → Prop} {H : Hp} {v : V} {d : Dt} (r : Rep K M H v d) (h : plainT d = true) : TyX K H v (.type (tyN d)) := by
  cases r with
  | non => exact .base .non
  | bl b => exact .base (.bl b)
  | int i => exact .base (.int i)
  | str x => exact .base (.str x)
  | ty n => cases h
  | cls a => cases h
  | tup n s r =>
    rcases s with (s | ⟨o, s⟩) | ⟨o, its, k, hk, hc, _⟩
    · exact .base (.tup s)
    · exact .fTuple s
    · exact .kTuple hk hc
  | lst n s r => exact .base (.lst s)
  | flst n s r =>
    rcases s with (s | ⟨o, s⟩) | ⟨o, its, k, hk, hc, _⟩
    · exact .base (.lst s)
    · exact .base (.frz s)
    · exact .kList hk hc
  | dk n s l r =>
    rcases s with s | ⟨o, s⟩
    · exact .base (.dK s)
    · exact .fDict s
  | dt n s l r => cases h
  | obj n s l r => cases h
def isB (d : Dt) (n : String) : Bool := match d with
  | .non => n == "NoneType" | .bl _ => n == "bool" || n == "int" | .int _ => n == "int" | .str _ => n == "str" | .lst _ => n == "list" | .flst _ => n == "list" | .tup _ => n == "tuple" | .dk _ _ => n == "dict" | .dt _ _ => n == "dict" | _ => false
theorem kit_isB {d : Dt} {n : String} (h : plainT d = true) (hn : n = "int" ∨ n = "bool" ∨ n = "str" ∨ n = "tuple" ∨ n = "list" ∨ n = "dict") : kitB (tyN d) n = some (isB d n) := by
  rcases hn with rfl | rfl | rfl | rfl | rfl | rfl <;> cases d <;> first | (cases h; done) | (simp only [tyN, isB]; decide +kernel)
theorem rc_isi : RcD X (rIsi X.K) (fun ds P => ∃ d n, ds = [d, .ty n] ∧ plainT d = true ∧ (n = "int" ∨ n = "bool" ∨ n = "str" ∨ n = "tuple" ∨ n = "list" ∨ n = "dict") ∧ P (.bl (isB d n))) := by
  rintro F Γ σ H xs ds P Q S r ⟨d, n, rfl, hp, hn, p⟩ w
  cases r with
  | cons r1 r2 =>
    cases r2 with
    | cons r2 r3 =>
      cases r3
      cases r2
      exact ⟨_, _, _, _, _, rfl, .ty n, r1.tyx hp, kit_ty (kit_isB hp hn), w _ _ _ S.refl (.bl _) p⟩
/-- isinstance(x, T), T by its name -/
theorem ev_isi {x : Expr} {T : Str} {n : String} {p q : Pos} (hm : X.mg "isinstance" = none) (hT : X.mg T = none) (h : Ev X F Γ x fun d => plainT d = true ∧ P (.bl (isB d n)))
    (hn : n = "int" ∨ n = "bool" ∨ n = "str" ∨ n = "tuple" ∨ n = "list" ∨ n = "dict" := by decide) (hv : bootBuiltins T = some (.type n) := by decide +kernel) (hg : Gl X "isinstance" := by rfl) (hgT : Gl X T := by rfl) (hnT : T ≠ "__name__" := by decide) (hd : (T == ("__debug__" : Str)) = false := by decide)
    (he : starEach [x, .Name T q] X.env = (false, eval x X.env) :: starEach [.Name T q] X.env := by rfl) (he2 : starEach [.Name T q] X.env = (false, eval (.Name T q) X.env) :: starEach [] X.env := by rfl) (hpl : (backTo pos (starEach [.Name T q] X.env)).any (·.1) = false := by rfl) :
    Ev X F Γ (.Call (.Name "isinstance" p) [x, .Name T q] [] pos) P :=
  ev_callB call_isi rc_isi hm (evl_cons (h.mono fun d ⟨hp, p⟩ => evl_cons (ev_bltn hT (evl_nil ⟨d, n, rfl, hp, hn, p⟩) hv hgT hnT hd) he2) he) (by decide +kernel) hg (by decide) (by decide) he hpl

/-! lists of truths -/
theorem RepAll.bls {K : PySem.W.Frag} {M : Addr → Prop} {H : Hp} : ∀ {xs : List V} {bs : List Bool}, RepAll K M H xs (bs.map .bl) → xs = bs.map V.bl
  | _, [], .nil => rfl
  | _, b :: bs, .cons r t => by
    cases r
    rw [RepAll.bls t]
    rfl
theorem RepAll.strs {K : PySem.W.Frag} {M : Addr → Prop} {H : Hp} : ∀ {xs : List V} {bs : List Str}, RepAll K M H xs (bs.map .str) → xs = bs.map V.str
  | _, [], .nil => rfl
  | _, b :: bs, .cons r t => by
    cases r
    rw [RepAll.strs t]
    rfl
theorem RepAll.ints {K : PySem.W.Frag} {M : Addr → Prop} {H : Hp} : ∀ {xs : List V} {bs : List Int}, RepAll K M H xs (bs.map .int) → xs = bs.map V.int
  | _, [], .nil => rfl
  | _, b :: bs, .cons r t => by
    cases r
    rw [RepAll.ints t]
    rfl
theorem RepAll.of_strs {K : PySem.W.Frag} {M : Addr → Prop} {H : Hp} : ∀ (bs : List Str), RepAll K M H (bs.map V.str) (bs.map .str)
  | [] => .nil
  | b :: bs => .cons (.str b) (RepAll.of_strs bs)
theorem RepAll.of_ints {K : PySem.W.Frag} {M : Addr → Prop} {H : Hp} : ∀ (bs : List Int), RepAll K M H (bs.map V.int) (bs.map .int)
  | [] => .nil
  | b :: bs => .cons (.int b) (RepAll.of_ints bs)
theorem ev_all {x : Expr} {p : Pos} (hm : X.mg "all" = none) (h : Ev X F Γ x fun d => ∃ bs, d = .lst (List.map Dt.bl bs) ∧ P (.bl (bs.all id))) (hc : X.calm = true := by rfl) (hg : Gl X "all" := by rfl) (he : starEach [x] X.env = (false, eval x X.env) :: starEach [] X.env := by rfl) : Ev X F Γ (.Call (.Name "all" p) [x] [] pos) P := by
  refine ev_callB (f := fun ds P => ∃ bs, ds = [.lst (List.map Dt.bl bs)] ∧ P (.bl (bs.all id))) (cr_all hc) ?_ hm (evl_cons (h.mono fun d ⟨i, e, p⟩ => evl_nil ⟨i, by rw [e], p⟩) he) (by decide +kernel) hg
  rintro F Γ σ H xs ds P Q S r ⟨i, rfl, p⟩ w
  cases r with
  | cons r1 r2 => cases r2; cases r1 with | lst n s r => exact ⟨_, i, rfl, by have e := r.bls; subst e; exact SqL.of s, w _ _ _ S.refl (.bl _) p⟩
theorem ev_any {x : Expr} {p : Pos} (hm : X.mg "any" = none) (h : Ev X F Γ x fun d => ∃ bs, d = .lst (List.map Dt.bl bs) ∧ P (.bl (bs.any id))) (hc : X.calm = true := by rfl) (hg : Gl X "any" := by rfl) (he : starEach [x] X.env = (false, eval x X.env) :: starEach [] X.env := by rfl) : Ev X F Γ (.Call (.Name "any" p) [x] [] pos) P := by
  refine ev_callB (f := fun ds P => ∃ bs, ds = [.lst (List.map Dt.bl bs)] ∧ P (.bl (bs.any id))) (cr_any hc) ?_ hm (evl_cons (h.mono fun d ⟨i, e, p⟩ => evl_nil ⟨i, by rw [e], p⟩) he) (by decide +kernel) hg
  rintro F Γ σ H xs ds P Q S r ⟨i, rfl, p⟩ w
  cases r with
  | cons r1 r2 => cases r2; cases r1 with | lst n s r => exact ⟨_, i, rfl, by have e := r.bls; subst e; exact SqL.of s, w _ _ _ S.refl (.bl _) p⟩
/-! list(x), tuple(x) of lists and tuples -/
def seqD : Dt → Option (List Dt)
  | .lst ds => some ds | .flst ds => some ds | .tup ds => some ds | _ => none
theorem ev_listOf {x : Expr} {p : Pos} (hm : X.mg "list" = none) (h : Ev X F Γ x fun d => ∃ ds, seqD d = some ds ∧ P (.lst ds)) (hg : Gl X "list" := by rfl) (he : starEach [x] X.env = (false, eval x X.env) :: starEach [] X.env := by rfl) : Ev X F Γ (.Call (.Name "list" p) [x] [] pos) P := by
  refine ev_callTy (f := fun as P => ∃ d ds, as = [d] ∧ seqD d = some ds ∧ P (.lst ds)) call_list_of ?_ hm (evl_cons (h.mono fun d ⟨n, e, p⟩ => evl_nil ⟨d, n, rfl, e, p⟩) he) (by decide +kernel) hg
  rintro F Γ σ H xs ds P Q S r ⟨d, n, rfl, e, p⟩ w
  have go : ∀ {ys : List V}, RepAll X.K F.M H ys n → ∀ l, H l = none → Q (.ref l) (upd H l (.lst ys)) := fun {ys} r l hl => by
    have k := S.knew (o := .lst ys) hl
    exact w _ _ _ k (.lst (S.fresh hl) upd_same (r.ext (k.extx S))) p
  cases r with
  | cons r1 r2 =>
    cases r2
    cases r1 <;> simp only [seqD] at e <;> try (cases e; done)
    · rename_i s r; cases e; exact ⟨_, _, rfl, .inr s, go r⟩
    · rename_i s r; cases e; exact ⟨_, _, rfl, .inl (SqL.of s), go r⟩
    · rename_i s r; cases e; exact ⟨_, _, rfl, .inl s, go r⟩
theorem ev_tupleOf {x : Expr} {p : Pos} (hm : X.mg "tuple" = none) (h : Ev X F Γ x fun d => ∃ ds, seqD d = some ds ∧ P (.tup ds)) (hg : Gl X "tuple" := by rfl) (he : starEach [x] X.env = (false, eval x X.env) :: starEach [] X.env := by rfl) : Ev X F Γ (.Call (.Name "tuple" p) [x] [] pos) P := by
  refine ev_callTy (f := fun as P => ∃ d ds, as = [d] ∧ seqD d = some ds ∧ P (.tup ds)) call_tuple_of ?_ hm (evl_cons (h.mono fun d ⟨n, e, p⟩ => evl_nil ⟨d, n, rfl, e, p⟩) he) (by decide +kernel) hg
  rintro F Γ σ H xs ds P Q S r ⟨d, n, rfl, e, p⟩ w
  have go : ∀ {ys : List V}, RepAll X.K F.M H ys n → ∀ l, H l = none → Q (.ref l) (upd H l (.tup ys)) := fun {ys} r l hl => by
    have k := S.knew (o := .tup ys) hl
    exact w _ _ _ k (.tup (S.fresh hl) (SqT.of upd_same) (r.ext (k.extx S))) p
  cases r with
  | cons r1 r2 =>
    cases r2
    cases r1 <;> simp only [seqD] at e <;> try (cases e; done)
    · rename_i n s r; cases e; exact ⟨_, _, rfl, .inr ⟨s, w _ _ _ S.refl (.tup n s r) p⟩⟩
    · rename_i s r; cases e; exact ⟨_, _, rfl, .inl ⟨SqL.of s, go r⟩⟩
    · rename_i s r; cases e; exact ⟨_, _, rfl, .inl ⟨s, go r⟩⟩
/-! sorted of texts (fewer than 64) -/
theorem ev_sortedS {x : Expr} {p : Pos} (hm : X.mg "sorted" = none) (h : Ev X F Γ x fun d => ∃ ss, d = .lst (List.map Dt.str ss) ∧ ss.length < 64 ∧ ∀ ys : List Str, ys.Perm ss → sortedS ys = true → P (.lst (ys.map .str))) (hg : Gl X "sorted" := by rfl) (he : starEach [x] X.env = (false, eval x X.env) :: starEach [] X.env := by rfl) : Ev X F Γ (.Call (.Name "sorted" p) [x] [] pos) P := by
  refine ev_callB (f := fun as P => ∃ ss, as = [.lst (List.map Dt.str ss)] ∧ ss.length < 64 ∧ ∀ ys : List Str, ys.Perm ss → sortedS ys = true → P (.lst (ys.map .str))) cr_sortedS ?_ hm (evl_cons (h.mono fun d ⟨n, e, p⟩ => evl_nil ⟨n, by rw [e], p⟩) he) (by decide +kernel) hg
  rintro F Γ σ H xs ds P Q S r ⟨ss, rfl, hl, p⟩ w
  cases r with
  | cons r1 r2 =>
    cases r2
    cases r1 with
    | lst n s r =>
      have e := r.strs
      subst e
      refine ⟨_, ss, rfl, SqL.of s, hl, fun ys q hp hs hq => ?_⟩
      have k := S.knew (o := .lst (ys.map V.str)) hq
      exact w _ _ _ k (.lst (S.fresh hq) upd_same (RepAll.of_strs ys)) (p ys hp hs)

/-! ### slices -/
def cutD (ds : List Dt) (lo hi : Option Int) : List Dt := (ds.drop (HT.sIx ds.length 0 lo)).take (HT.sIx ds.length ds.length hi - HT.sIx ds.length 0 lo)
def slD : Dt → Option Int → Option Int → Option Dt
  | .lst ds, lo, hi => some (.lst (cutD ds lo hi))
  | .flst ds, lo, hi => some (.lst (cutD ds lo hi))
  | .tup ds, lo, hi => some (.tup (cutD ds lo hi))
  | .str z, lo, hi => some (.str (cutS z lo hi))
  | _, _, _ => none
theorem RepAll.cut {K : PySem.W.Frag} {M : Addr → Prop} {H : Hp} {xs : List V} {ds : List Dt} (r : RepAll K M H xs ds) (lo hi : Option Int) : RepAll K M H (cutV xs lo hi) (cutD ds lo hi) := by
  unfold cutV cutD
  rw [r.length]
  exact (r.drop _).take _
/-- a bound of a slice -/
def EvO (X : Cx) (F : Fc) (Γ : List Sl) (o : Option Expr) (P : Option Int → Prop) : Prop :=
  match o with
  | none => P none
  | some e => Ev X F Γ e fun d => ∃ i, d = .int i ∧ P (some i)
end
end DL
/-! DL4: slices, join, repr, ==, what is walked, list comprehensions. -/
namespace DL
open PySem PySem.Spec PyProof.Rows L2

section
variable {X : Cx} {F : Fc} {Γ : List Sl} {e a b c : Expr} {es : List Expr} {pos p2 : Pos} {P : Dt → Prop} {PT : Bool → Prop}
def rSl (K : PySem.W.Frag) : V → Option Int → Option Int → Hp → VK → Prop := fun x lo hi H Q => (rSlL K x lo hi H Q ∨ rSlA K x lo hi H Q) ∨ rSlS x lo hi H Q
theorem sl_any : SlR X (rSl X.K) := (sl_list.or sl_tupA).or sl_str
theorem sl_data {σ : St} {H : Hp} {x : V} {da d : Dt} {lo hi : Option Int} {Q : VK} (S : SR X.K F Γ σ H) (r : Rep X.K F.M H x da) (e : slD da lo hi = some d) (z : Sz da) (q : ∀ v H', Kp F H H' → Rep X.K F.M H' v d → Q v H') : rSl X.K x lo hi H Q := by
  cases r <;> simp only [slD] at e <;> try (cases e; done)
  · cases e; exact .inr ⟨_, rfl, z, q _ _ S.refl (.str _)⟩
  · rename_i a xs ds n s r
    cases e
    refine .inl (.inr ⟨_, _, rfl, s, fun h => ?_, fun h p hp => ?_⟩)
    · have e : cutD ds lo hi = ds := by
        unfold cutD
        rw [← r.length, h.1, h.2, List.drop_zero, Nat.sub_zero]
        rw [r.length]
        exact List.take_length
      rw [e] at q
      exact q _ _ S.refl (.tup n s r)
    · have k := S.knew (o := .tup (cutV xs lo hi)) hp
      exact q _ _ k (.tup (S.fresh hp) (SqT.of upd_same) ((r.cut lo hi).ext (k.extx S)))
  · rename_i a xs ds n s r
    cases e
    refine .inl (.inl ⟨_, _, rfl, SqL.of s, fun p hp => ?_⟩)
    have k := S.knew (o := .lst (cutV xs lo hi)) hp
    exact q _ _ k (.lst (S.fresh hp) upd_same ((r.cut lo hi).ext (k.extx S)))
  · rename_i a xs ds n s r
    cases e
    refine .inl (.inl ⟨_, _, rfl, s, fun p hp => ?_⟩)
    have k := S.knew (o := .lst (cutV xs lo hi)) hp
    exact q _ _ k (.lst (S.fresh hp) upd_same ((r.cut lo hi).ext (k.extx S)))
theorem ev_slice {lo hi : Option Expr} (h : Ev X F Γ a fun da => EvO X F Γ lo fun l => EvO X F Γ hi fun u => ∃ d, slD da l u = some d ∧ Sz da ∧ P d) : Ev X F Γ (.Subscript a (.Slice lo hi none p2) pos) P := by
  intro σ H S
  have fin : ∀ {x : V} {da : Dt} {H1 H2 : Hp} {l u : Option Int}, Kp F H H1 → SR X.K F Γ σ H1 → Rep X.K F.M H1 x da → Kp F H1 H2 → (∃ d, slD da l u = some d ∧ Sz da ∧ P d) → rSl X.K x l u H2 (fun v H' => Kp F H H' ∧ ∃ d, Rep X.K F.M H' v d ∧ P d) := fun k1 S1 r1 k2 ⟨d, e, z, p⟩ =>
    sl_data (S1.kp k2) (S1.rep k2 r1) e z fun v H3 k3 r3 => ⟨(k1.trans k2).trans k3, d, r3, p⟩
  cases lo with
  | none =>
    cases hi with
    | none => exact tW.of (pe_slice sl_any pe_w po_none po_none) (h.then S fun x H1 da k1 S1 r1 hp => fin k1 S1 r1 S1.refl hp)
    | some e => exact tW.of (pe_slice sl_any pe_w po_none (po_some pe_w)) (h.then S fun x H1 da k1 S1 r1 hp => Ev.then hp S1 fun y H2 dy k2 S2 r2 ⟨i, ei, hp⟩ => by
        subst ei; cases r2
        exact ⟨i, rfl, fin k1 S1 r1 k2 hp⟩)
  | some e =>
    cases hi with
    | none => exact tW.of (pe_slice sl_any pe_w (po_some pe_w) po_none) (h.then S fun x H1 da k1 S1 r1 hp => Ev.then hp S1 fun y H2 dy k2 S2 r2 ⟨i, ei, hp⟩ => by
        subst ei; cases r2
        exact ⟨i, rfl, fin k1 S1 r1 k2 hp⟩)
    | some e2 => exact tW.of (pe_slice sl_any pe_w (po_some pe_w) (po_some pe_w)) (h.then S fun x H1 da k1 S1 r1 hp => Ev.then hp S1 fun y H2 dy k2 S2 r2 ⟨i, ei, hp⟩ => by
        subst ei; cases r2
        exact ⟨i, rfl, Ev.then hp S2 fun y2 H3 dy2 k3 S3 r3 ⟨j, ej, hp⟩ => by
          subst ej; cases r3
          exact ⟨j, rfl, fin k1 S1 r1 (k2.trans k3) hp⟩⟩)
/-! sep.join(list of texts) -/
theorem ev_join {o x : Expr} {apos : Pos} (h : Ev X F Γ o fun dz => ∃ z, dz = .str z ∧ Ev X F Γ x fun d => ∃ ys, d = .lst (List.map Dt.str ys) ∧ (ys.map (·.length)).sum + ys.length * z.length ≤ 16777216 ∧ P (.str (Txt.join z ys)))
    (hs : starEach [x] X.env = [(false, eval x X.env)] := by rfl) (hbase : attributeBase o "join" X.env (eval o X.env) = eval o X.env := by rfl) (hline : (apos.endLine == pos.line) = true := by rfl) : Ev X F Γ (.Call (.Attribute o "join" apos) [x] [] pos) P := fun σ H S =>
  tW.of (pe_join pe_w pe_w hs hbase hline) (h.then S fun v H1 dz k1 S1 r1 ⟨z, ez, h2⟩ => by
    subst ez
    cases r1
    refine ⟨⟨z, rfl⟩, h2.then S1 fun w H2 d k2 S2 r2 ⟨ys, ed, hz, p⟩ => ?_⟩
    subst ed
    cases r2 with
    | lst n s r =>
      have e := r.strs
      subst e
      exact ⟨z, _, ys, rfl, rfl, .inl (SqL.of s), hz, k1.trans k2, _, .str _, p⟩)

/-! ### data as the library's -/
mutual
def Dt.py : Dt → PyData
  | .bl b => .bool b | .int i => .int i | .str x => .str x | .tup ds => .tuple (pyAll ds) | .lst ds => .list (pyAll ds) | .flst ds => .list (pyAll ds) | _ => .none
def pyAll : List Dt → List PyData
  | [] => []
  | d :: ds => d.py :: pyAll ds
end
mutual
/-- texts, numbers, truths, None, lists and tuples of such -/
def Dt.simple : Dt → Bool
  | .non => true | .bl _ => true | .int _ => true | .str _ => true | .tup ds => simpleAll ds | .lst ds => simpleAll ds | .flst ds => simpleAll ds | _ => false
def simpleAll : List Dt → Bool
  | [] => true
  | d :: ds => d.simple && simpleAll ds
end
mutual
theorem Rep.dp {K : PySem.W.Frag} {M : Addr → Prop} {H : Hp} : ∀ {v : V} {d : Dt}, Rep K M H v d → d.simple = true → Dp K H v d.py
  | _, _, .non, _ => .non
  | _, _, .bl b, _ => .bl b
  | _, _, .int i, _ => .int i
  | _, _, .str x, _ => .str x
  | _, _, .ty n, h => by simp [Dt.simple] at h
  | _, _, .cls a, h => by simp [Dt.simple] at h
  | _, _, .tup n s r, h => .tup s (RepAll.dp r (by simpa [Dt.simple] using h))
  | _, _, .lst n s r, h => .lst (SqL.of s) (RepAll.dp r (by simpa [Dt.simple] using h))
  | _, _, .flst n s r, h => .lst s (RepAll.dp r (by simpa [Dt.simple] using h))
  | _, _, .dk n s l r, h => by simp [Dt.simple] at h
  | _, _, .dt n s l r, h => by simp [Dt.simple] at h
  | _, _, .obj n s l r, h => by simp [Dt.simple] at h
theorem RepAll.dp {K : PySem.W.Frag} {M : Addr → Prop} {H : Hp} : ∀ {vs : List V} {ds : List Dt}, RepAll K M H vs ds → simpleAll ds = true → DpAll K H vs (pyAll ds)
  | _, _, .nil, _ => .nil
  | _, _, .cons r t, h => by
    rw [simpleAll, Bool.and_eq_true] at h
    exact .cons (Rep.dp r h.1) (RepAll.dp t h.2)
end
/-- == and != of such data -/
theorem ev_eqD (hu : X.A.units + 64 < cLine) (h : Ev X F Γ a fun da => Ev X F Γ b fun db => (da.simple = true ∧ db.simple = true ∧ SeqAt.shaped da.py = true ∧ SeqAt.shaped db.py = true) ∧ P (.bl (PyData.eqv da.py db.py))) : Ev X F Γ (.Compare a [.Eq] [b] pos) P := by
  refine ev_op2 (r := rEqD X.K) (f := fun da db P => (da.simple = true ∧ db.simple = true ∧ SeqAt.shaped da.py = true ∧ SeqAt.shaped db.py = true) ∧ P (.bl (PyData.eqv da.py db.py))) ?_ (fun ta tb ha hb => pe_cmpR (op_eqD hu) ha hb (nomark _)) h
  rintro F Γ σ H x y dx dy P Q S rx ry ⟨⟨h1, h2, h3, h4⟩, p⟩ w
  exact ⟨_, _, rx.dp h1, ry.dp h2, h3, h4, w _ _ _ S.refl (.bl _) p⟩
theorem ev_neD (hu : X.A.units + 64 < cLine) (h : Ev X F Γ a fun da => Ev X F Γ b fun db => (da.simple = true ∧ db.simple = true ∧ SeqAt.shaped da.py = true ∧ SeqAt.shaped db.py = true) ∧ P (.bl (!PyData.eqv da.py db.py))) : Ev X F Γ (.Compare a [.NotEq] [b] pos) P := by
  refine ev_op2 (r := rNeD X.K) (f := fun da db P => (da.simple = true ∧ db.simple = true ∧ SeqAt.shaped da.py = true ∧ SeqAt.shaped db.py = true) ∧ P (.bl (!PyData.eqv da.py db.py))) ?_ (fun ta tb ha hb => pe_cmpR (op_neD hu) ha hb (nomark _)) h
  rintro F Γ σ H x y dx dy P Q S rx ry ⟨⟨h1, h2, h3, h4⟩, p⟩ w
  exact ⟨_, _, rx.dp h1, ry.dp h2, h3, h4, w _ _ _ S.refl (.bl _) p⟩
theorem et_eqD (hu : X.A.units + 64 < cLine) (h : Ev X F Γ a fun da => Ev X F Γ b fun db => (da.simple = true ∧ db.simple = true ∧ SeqAt.shaped da.py = true ∧ SeqAt.shaped db.py = true) ∧ PT (PyData.eqv da.py db.py)) : EvT X F Γ (.Compare a [.Eq] [b] pos) PT := fun σ H S =>
  tWT.of (pt_cmpR (op_eqD hu) pe_w pe_w (nomark _)) (h.then S fun x H1 da k1 S1 r1 hb => hb.then S1 fun y H2 db k2 S2 r2 ⟨⟨h1, h2, h3, h4⟩, p⟩ =>
    ⟨_, _, (S1.rep k2 r1).dp h1, r2.dp h2, h3, h4, _, rfl, k1.trans k2, p⟩)
theorem et_neD (hu : X.A.units + 64 < cLine) (h : Ev X F Γ a fun da => Ev X F Γ b fun db => (da.simple = true ∧ db.simple = true ∧ SeqAt.shaped da.py = true ∧ SeqAt.shaped db.py = true) ∧ PT (!PyData.eqv da.py db.py)) : EvT X F Γ (.Compare a [.NotEq] [b] pos) PT := fun σ H S =>
  tWT.of (pt_cmpR (op_neD hu) pe_w pe_w (nomark _)) (h.then S fun x H1 da k1 S1 r1 hb => hb.then S1 fun y H2 db k2 S2 r2 ⟨⟨h1, h2, h3, h4⟩, p⟩ =>
    ⟨_, _, (S1.rep k2 r1).dp h1, r2.dp h2, h3, h4, _, rfl, k1.trans k2, p⟩)
/-! repr of a list or tuple -/
def isSeq : Dt → Bool
  | .tup _ => true | .lst _ => true | .flst _ => true | _ => false
def rRepr (K : PySem.W.Frag) : List V → Hp → VK → Prop := fun xs H Q => ∃ a d, xs = [.ref a] ∧ Dp K H (.ref a) d ∧ d.showable = true ∧ d.hasDict = false ∧ d.depth ≤ 60 ∧ d.shown.length ≤ sizeLine ∧ Q (.str d.shown) H
theorem call_repr (hg : X.A.guards = some []) (hu : X.A.units + 64 < cLine) : CallR X (.builtin "repr") (rRepr X.K) := by
  intro pins s σ H xs us Q I r h
  obtain ⟨a, d, rfl, hd, hs, hn, hp, hz, q⟩ := h
  obtain ⟨u, rfl, rx⟩ := vals1 r
  obtain ⟨as, rd⟩ := Dp.reads I d _ u hd rx
  cases rx
  exact repr_of_reads' rd hs (PyData.noDict_hsm hn) hg (by omega) (fun _ _ e => e) (fun h' u tk k => ⟨.str _, H, I.kept (t' := tk) k, ⟨u, rfl⟩, q⟩) hz
theorem ev_repr {x : Expr} {p : Pos} (hm : X.mg "repr" = none) (hgd : X.A.guards = some []) (hu : X.A.units + 64 < cLine) (h : Ev X F Γ x fun d => isSeq d = true ∧ d.simple = true ∧ d.py.showable = true ∧ d.py.hasDict = false ∧ d.py.depth ≤ 60 ∧ d.py.shown.length ≤ sizeLine ∧ P (.str d.py.shown))
    (hg : Gl X "repr" := by rfl) (he : starEach [x] X.env = (false, eval x X.env) :: starEach [] X.env := by rfl) : Ev X F Γ (.Call (.Name "repr" p) [x] [] pos) P := by
  refine ev_callB (f := fun ds P => ∃ d, ds = [d] ∧ isSeq d = true ∧ d.simple = true ∧ d.py.showable = true ∧ d.py.hasDict = false ∧ d.py.depth ≤ 60 ∧ d.py.shown.length ≤ sizeLine ∧ P (.str d.py.shown)) (call_repr hgd hu) ?_ hm (evl_cons (h.mono fun d hd => evl_nil ⟨d, rfl, hd⟩) he) (by decide +kernel) hg
  rintro F Γ σ H xs ds P Q S r ⟨d, rfl, hq, h1, h2, h3, h4, h5, p⟩ w
  cases r with
  | cons r1 r2 =>
    cases r2
    have hd := r1.dp h1
    cases r1 <;> first | (cases hq; done) | exact ⟨_, _, rfl, hd, h2, h3, h4, h5, w _ _ _ S.refl (.str _) p⟩

/-! ### what is walked -/
def tWI (X : Cx) (tg iter : Expr) : TI := fun σ H R => ∀ (pins : List (Addr × Obj)) (s : Shared), Inv X pins σ H s → wpAny (model X.prog X.w) X.A (eval iter X.env) (fun v s1 => wpAny (model X.prog X.w) X.A (pyIter v) (PIE X pins σ tg R) X.xe s1) X.xe s
theorem pi_w {tg iter : Expr} : PI X tg iter (tWI X tg iter) := ⟨fun pins s σ H R I h => h pins s I⟩
theorem tWI.of {tg iter : Expr} {t : TI} (h : PI X tg iter t) {σ : St} {H : Hp} {Q : It → Hp → Prop} (q : t σ H Q) : tWI X tg iter σ H Q := fun pins s I => h.run pins s σ H Q I q
theorem tWI.mono {tg iter : Expr} {σ : St} {H : Hp} {Q Q' : It → Hp → Prop} (h : tWI X tg iter σ H Q) (q : ∀ v H', Q v H' → Q' v H') : tWI X tg iter σ H Q' := fun pins s I =>
  thn (h pins s I) fun u s' h1 => thn h1 fun itv s2 ⟨it, fp, tn, J, H', e, I', T, st, f, r⟩ => ⟨it, fp, tn, J, H', e, I', T, st, f, q J H' r⟩
/-- the walk yields the data ds, whatever is done to what stands in M meanwhile -/
def Fresh (K : PySem.W.Frag) (M N : Addr → Prop) (H : Hp) : Prop := (∀ a, M a → N a) ∧ ∀ a, N a → M a ∨ (H a = none ∧ K.lookup a = none)
theorem Fresh.refl {K : PySem.W.Frag} {M : Addr → Prop} {H : Hp} : Fresh K M M H := ⟨fun _ h => h, fun _ h => .inl h⟩
theorem fresh_no {K : PySem.W.Frag} {M N : Addr → Prop} {H : Hp} (f : Fresh K M N H) {a : Addr} (n : ¬ M a) (h : H a ≠ none ∨ K.lookup a ≠ none) : ¬ N a := fun z => by
  rcases f.2 a z with z | ⟨h1, h2⟩
  · exact n z
  · rcases h with h | h
    · exact h h1
    · exact h h2
theorem sq_ok {K : PySem.W.Frag} {H : Hp} {a : Addr} {u : HO} (s : Rd H a u) : H a ≠ none := by
  rcases s with s | ⟨o, s⟩
  · rw [s]; simp
  · rw [s]; simp
theorem sqT_ok {K : PySem.W.Frag} {H : Hp} {a : Addr} {xs : List V} (s : SqT K H a xs) : H a ≠ none ∨ K.lookup a ≠ none := by
  rcases s with s | ⟨o, its, k, q, _⟩
  · exact .inl (sq_ok (K := K) s)
  · exact .inr (by rw [q]; simp)
theorem sqL_ok {K : PySem.W.Frag} {H : Hp} {a : Addr} {xs : List V} (s : SqL K H a xs) : H a ≠ none ∨ K.lookup a ≠ none := by
  rcases s with s | ⟨o, its, k, q, _⟩
  · exact .inl (sq_ok (K := K) s)
  · exact .inr (by rw [q]; simp)
mutual
/-- what is new is apart from all data -/
theorem Rep.frs {K : PySem.W.Frag} {M N : Addr → Prop} {H : Hp} (f : Fresh K M N H) : ∀ {v : V} {d : Dt}, Rep K M H v d → Rep K N H v d
  | _, _, .non => .non
  | _, _, .bl b => .bl b
  | _, _, .int i => .int i
  | _, _, .str x => .str x
  | _, _, .ty n => .ty n
  | _, _, .cls a => .cls a
  | _, _, .tup n s r => .tup (fresh_no f n (sqT_ok s)) s (RepAll.frs f r)
  | _, _, .lst n s r => .lst (fresh_no f n (.inl (by rw [s]; simp))) s (RepAll.frs f r)
  | _, _, .flst n s r => .flst (fresh_no f n (sqL_ok s)) s (RepAll.frs f r)
  | _, _, .dk n s l r => .dk (fresh_no f n (.inl (sq_ok (K := K) s))) s l (RepAll.frs f r)
  | _, _, .dt n s l r => .dt (fresh_no f n (.inl (sq_ok (K := K) s))) s l (RepAll.frs f r)
  | _, _, .obj n s l r => .obj (fresh_no f n (.inl (by rw [s]; simp))) s l (RepAll.frs f r)
theorem RepAll.frs {K : PySem.W.Frag} {M N : Addr → Prop} {H : Hp} (f : Fresh K M N H) : ∀ {vs : List V} {ds : List Dt}, RepAll K M H vs ds → RepAll K N H vs ds
  | _, _, .nil => .nil
  | _, _, .cons r t => .cons (Rep.frs f r) (RepAll.frs f t)
end
def ItD (K : PySem.W.Frag) (M : Addr → Prop) (J : It) (ds : List Dt) (H : Hp) : Prop := ∀ N, Fresh K M N H → ∀ (i : Nat) (H' : Hp), ExtM N H H' → (∀ a, N a → H' a ≠ none) →
  (∀ d, ds[i]? = some d → J.go i H' ∧ ∀ x H2, J.yld i H' x H2 → (H2 = H' ∨ ∃ T o, H' T = none ∧ H2 = upd H' T o) ∧ Rep K N H2 x d) ∧ (ds.length ≤ i → J.stop i H')
def EvI (X : Cx) (F : Fc) (Γ : List Sl) (tg iter : Expr) (P : List Dt → Prop) : Prop :=
  ∀ σ H, SR X.K F Γ σ H → tWI X tg iter σ H fun J H' => Kp F H H' ∧ ∃ ds, ItD X.K F.M J ds H' ∧ P ds
theorem EvI.then {tg iter : Expr} {PL : List Dt → Prop} {σ : St} {H : Hp} {Q : It → Hp → Prop} (h : EvI X F Γ tg iter PL) (S : SR X.K F Γ σ H) (q : ∀ J H1 ds, Kp F H H1 → SR X.K F Γ σ H1 → ItD X.K F.M J ds H1 → PL ds → Q J H1) : tWI X tg iter σ H Q :=
  (h σ H S).mono fun v H1 ⟨k, d, r, p⟩ => q v H1 d k (S.kp k) r p
variable {PL : List Dt → Prop} {tg : Expr}
theorem itd_tup {K : PySem.W.Frag} {M : Addr → Prop} {H : Hp} {a : Addr} {xs : List V} {ds : List Dt} (n : ¬ M a) (s : SqT K H a xs) (r : RepAll K M H xs ds) : ItD K M (Itt K a) ds H := by
  intro N f i H' e _
  have s' := e.sqT (fresh_no f n (sqT_ok s)) s
  have r' := (r.frs f).ext e
  refine ⟨fun d hd => ?_, fun h => ⟨xs, s', by rw [r.length]; exact h⟩⟩
  obtain ⟨v, hv, rv⟩ := r'.get hd
  refine ⟨⟨xs, v, s', hv⟩, fun x H2 ⟨e2, hx⟩ => ?_⟩
  subst e2
  have := hx xs s'
  rw [hv] at this
  cases this
  exact ⟨.inl rfl, rv⟩
theorem itd_lst {K : PySem.W.Frag} {M : Addr → Prop} {H : Hp} {a : Addr} {xs : List V} {ds : List Dt} (n : ¬ M a) (s : SqL K H a xs) (r : RepAll K M H xs ds) : ItD K M (Itl K a) ds H := by
  intro N f i H' e _
  have s' := e.sqL (fresh_no f n (sqL_ok s)) s
  have r' := (r.frs f).ext e
  refine ⟨fun d hd => ?_, fun h => ⟨xs, s', by rw [r.length]; exact h⟩⟩
  obtain ⟨v, hv, rv⟩ := r'.get hd
  refine ⟨⟨xs, v, s', hv⟩, fun x H2 ⟨e2, hx⟩ => ?_⟩
  subst e2
  have := hx xs s'
  rw [hv] at this
  cases this
  exact ⟨.inl rfl, rv⟩
theorem ei_tup {l : Expr} (h : Ev X F Γ l fun d => ∃ ds, d = .tup ds ∧ PL ds) : EvI X F Γ tg l PL := fun σ H S =>
  tWI.of (pi_tup pe_w) (h.then S fun v H1 d k S1 r ⟨ds, e, p⟩ => by
    subst e
    cases r with
    | tup n s r => exact ⟨_, rfl, ⟨_, s⟩, k, ds, itd_tup n s r, p⟩)
theorem ei_lst {l : Expr} (h : Ev X F Γ l fun d => ∃ ds, (d = .lst ds ∨ d = .flst ds) ∧ PL ds) : EvI X F Γ tg l PL := fun σ H S =>
  tWI.of (pi_list pe_w) (h.then S fun v H1 d k S1 r ⟨ds, e, p⟩ => by
    rcases e with e | e
    · subst e
      cases r with
      | lst n s r => exact ⟨_, rfl, ⟨_, SqL.of s⟩, k, ds, itd_lst n (SqL.of s) r, p⟩
    · subst e
      cases r with
      | flst n s r => exact ⟨_, rfl, ⟨_, s⟩, k, ds, itd_lst n s r, p⟩)
/-- the signs of a text -/
def signs (z : Str) : List Dt := z.cps.toList.map fun c => .str ⟨#[c]⟩
theorem ei_str {l : Expr} (h : Ev X F Γ l fun d => ∃ z, d = .str z ∧ PL (signs z)) : EvI X F Γ tg l PL := fun σ H S =>
  tWI.of (pi_str pe_w) (h.then S fun v H1 d k S1 r ⟨z, e, p⟩ => by
    subst e
    cases r
    refine ⟨z, rfl, k, signs z, fun _ _ i H' _ _ => ⟨fun d hd => ?_, fun h => ?_⟩, p⟩
    · unfold signs at hd
      rw [List.getElem?_map] at hd
      cases q : z.cps.toList[i]? with
      | none => rw [q] at hd; cases hd
      | some c =>
        rw [q] at hd
        cases hd
        have hc : z.cps[i]? = some c := by simpa using q
        have hi : i < z.cps.size := by
          rcases Nat.lt_or_ge i z.cps.size with h | h
          · exact h
          · rw [Array.getElem?_eq_none h] at hc; cases hc
        refine ⟨hi, fun x H2 ⟨e2, c', hc', hx⟩ => ?_⟩
        subst e2
        rw [hc] at hc'
        cases hc'
        subst hx
        exact ⟨.inl rfl, .str _⟩
    · unfold signs at h
      show z.cps.size ≤ i
      simpa using h)
/-- range -/
def rangeD (lo : Int) (n : Nat) : List Dt := (List.range n).map fun (i : Nat) => Dt.int (lo + (i : Int))
theorem itd_range {K : PySem.W.Frag} {M : Addr → Prop} {H : Hp} (lo : Int) (n : Nat) : ItD K M (Itr lo n) (rangeD lo n) H := by
  intro _ _ i H' _ _
  refine ⟨fun d hd => ?_, fun h => ?_⟩
  · unfold rangeD at hd
    rw [List.getElem?_map] at hd
    by_cases hi : i < n
    · rw [List.getElem?_range hi] at hd
      cases hd
      refine ⟨hi, fun x H2 ⟨e2, hx⟩ => ?_⟩
      subst e2 hx
      exact ⟨.inl rfl, .int _⟩
    · rw [List.getElem?_eq_none (by simpa using hi)] at hd
      cases hd
  · show n ≤ i
    simpa [rangeD] using h
theorem ei_range1 {x : Expr} {p : Pos} (hm : X.mg "range" = none) (h : Ev X F Γ x fun d => ∃ n : Int, d = .int n ∧ -(2 ^ 62) ≤ n ∧ n < 2 ^ 62 ∧ PL (rangeD 0 n.toNat)) (hg : Gl X "range" := by rfl) (hs : starEach [x] X.env = (false, eval x X.env) :: starEach [] X.env := by rfl) (hs' : starEach [x] X.env = [(false, eval x X.env)] := by rfl) : EvI X F Γ tg (.Call (.Name "range" p) [x] [] pos) PL := fun σ H S =>
  tWI.of (pi_range1 hg hm (pa_cons pe_w pa_nil hs) hs') (h.then S fun v H1 d k S1 r ⟨n, e, h1, h2, p⟩ => by
    subst e
    cases r
    exact ⟨n, rfl, h1, h2, k, _, itd_range 0 _, p⟩)
/-- zip of two tuples (or two lists) of one or unlike lengths -/
def zipD : List Dt → List Dt → List Dt
  | x :: xs, y :: ys => .tup [x, y] :: zipD xs ys
  | _, _ => []
theorem zipD_get : ∀ {xs ys : List Dt} {i : Nat} {d : Dt}, (zipD xs ys)[i]? = some d → ∃ x y, xs[i]? = some x ∧ ys[i]? = some y ∧ d = .tup [x, y]
  | [], _, _, _, h => by simp [zipD] at h
  | _ :: _, [], _, _, h => by simp [zipD] at h
  | x :: xs, y :: ys, 0, d, h => by simp [zipD] at h; exact ⟨x, y, rfl, rfl, h.symm⟩
  | x :: xs, y :: ys, i + 1, d, h => by
    obtain ⟨a, b, h1, h2, h3⟩ := zipD_get (xs := xs) (ys := ys) (i := i) (d := d) (by simpa [zipD] using h)
    exact ⟨a, b, by simpa using h1, by simpa using h2, h3⟩
theorem zipD_len : ∀ {xs ys : List Dt}, (zipD xs ys).length = min xs.length ys.length
  | [], _ => by simp [zipD]
  | _ :: _, [] => by simp [zipD]
  | x :: xs, y :: ys => by simp [zipD, zipD_len (xs := xs) (ys := ys), Nat.succ_min_succ]
theorem ei_zipT {x y : Expr} {p tpos : Pos} {elts : List Expr} {kk : Nat} (hm : X.mg "zip" = none) (h : Ev X F Γ x fun dx => Ev X F Γ y fun dy => ∃ xs ys, dx = .tup xs ∧ dy = .tup ys ∧ PL (zipD xs ys)) (hg : Gl X "zip" := by rfl)
    (hs : starEach [x, y] X.env = (false, eval x X.env) :: starEach [y] X.env := by rfl) (hs2 : starEach [y] X.env = (false, eval y X.env) :: starEach [] X.env := by rfl) (hpl : (backTo pos (starEach [y] X.env)).any (·.1) = false := by rfl) :
    EvI X F Γ (.Tuple elts kk tpos) (.Call (.Name "zip" p) [x, y] [] pos) PL := fun σ H S =>
  tWI.of (RZ.pi_zipA hg hm (pa_cons pe_w (pa_cons pe_w pa_nil hs2) hs) hs hpl) (h.then S fun v H1 d k S1 r h2 => h2.then S1 fun w H2 d2 k2 S2 r2 ⟨xs, ys, e1, e2, p⟩ => by
    subst e1 e2
    have r := S1.rep k2 r
    cases r with
    | @tup a vs _ n s r =>
    cases r2 with
    | @tup b ws _ n' s' r' =>
    refine ⟨a, b, vs, ws, rfl, .inr ⟨s, s', k.trans k2, zipD xs ys, fun N f i H' e tr => ⟨fun d hd => ?_, fun h => ?_⟩, p⟩⟩
    · have fn := fresh_no f n (sqT_ok s)
      have fn' := fresh_no f n' (sqT_ok s')
      obtain ⟨dx, dy, g1, g2, ed⟩ := zipD_get hd
      subst ed
      obtain ⟨vx, hx, rx⟩ := ((r.frs f).ext e).get g1
      obtain ⟨vy, hy, ry⟩ := ((r'.frs f).ext e).get g2
      refine ⟨⟨vs, ws, vx, vy, e.sqT fn s, e.sqT fn' s', hx, hy⟩, fun z H3 ⟨T, x1, y1, ez, hT, e3, f1, f2⟩ => ?_⟩
      have q1 := f1 _ (e.sqT fn s)
      have q2 := f2 _ (e.sqT fn' s')
      rw [hx] at q1
      rw [hy] at q2
      cases q1
      cases q2
      subst ez e3
      exact ⟨.inr ⟨T, _, hT, rfl⟩, .tup (fun z => tr T z hT) (SqT.of upd_same) (.cons (rx.ext (.new hT)) (.cons (ry.ext (.new hT)) .nil))⟩
    · have fn := fresh_no f n (sqT_ok s)
      have fn' := fresh_no f n' (sqT_ok s')
      rw [zipD_len] at h
      refine ⟨vs, ws, e.sqT fn s, e.sqT fn' s', ?_⟩
      rw [r.length, r'.length]
      omega)
end
end DL
/-! DL5: states stored, statements, for, list comprehensions. -/
namespace DL
open PySem PySem.Spec PyProof.Rows L2

/-! ### states -/
section
variable {K : PySem.W.Frag} {F : Fc} {Γ : List Sl} {σ : St} {H : Hp}
theorem set_at {α : Type} {l : List α} {i j : Nat} {x y : α} (h : (l.set i x)[j]? = some y) : (j = i ∧ y = x) ∨ (j ≠ i ∧ l[j]? = some y) := by
  by_cases e : i = j
  · subst e
    by_cases hi : i < l.length
    · rw [List.getElem?_set_self hi] at h
      cases h
      exact .inl ⟨rfl, rfl⟩
    · rw [List.getElem?_eq_none (by simpa using hi)] at h
      cases h
  · rw [List.getElem?_set_ne e] at h
    exact .inr ⟨fun z => e z.symm, h⟩
theorem SR.lt (S : SR K F Γ σ H) {i : Nat} {x : Sl} {s : Sl} (h : (Γ.set i x)[i]? = some s) : i < σ.length := by
  rw [← S.len]
  by_cases hi : i < Γ.length
  · exact hi
  · rw [List.getElem?_eq_none (by simpa using hi)] at h; cases h
/-- a slot gets a value -/
theorem SR.put (S : SR K F Γ σ H) (i : Nat) {v : V} {s : Sl} (hd : ∀ d, s = .dat d → Rep K F.M H v d) (hm : s = .mil → ∃ m, F.mo m ∧ v = .ref m) (ho : ∀ p d, s = .own p d → v = .ref p ∧ F.O p ∧ ¬ F.mo p ∧ OwnR K F.M H p d ∧ ∀ (j : Nat) e, Γ[j]? = some (.own p e) → j = i) : SR K F (Γ.set i s) (σ.set i (some v)) H where
  len := by rw [List.length_set, List.length_set, S.len]
  ex := S.ex
  tr := S.tr
  mm := S.mm
  dat := fun j d h => by
    rcases set_at h with ⟨rfl, e⟩ | ⟨n, h⟩
    · exact ⟨v, List.getElem?_set_self (S.lt (x := s) (by rw [h])), hd d e.symm⟩
    · rw [List.getElem?_set_ne (Ne.symm n)]; exact S.dat j d h
  own := fun j p d h => by
    rcases set_at h with ⟨rfl, e⟩ | ⟨n, h⟩
    · obtain ⟨rfl, h1, h2, h3, _⟩ := ho p d e.symm
      exact ⟨List.getElem?_set_self (S.lt (x := s) (by rw [h])), h1, h2, h3⟩
    · rw [List.getElem?_set_ne (Ne.symm n)]; exact S.own j p d h
  inj := fun j k p d e h1 h2 => by
    rcases set_at h1 with ⟨q1, e1⟩ | ⟨n1, g1⟩
    · rcases set_at h2 with ⟨q2, e2⟩ | ⟨n2, g2⟩
      · exact q1.trans q2.symm
      · exact q1.trans ((ho p d e1.symm).2.2.2.2 k e g2).symm
    · rcases set_at h2 with ⟨q2, e2⟩ | ⟨n2, g2⟩
      · exact ((ho p e e2.symm).2.2.2.2 j d g1).trans q2.symm
      · exact S.inj j k p d e g1 g2
  mil := fun j h => by
    rcases set_at h with ⟨rfl, e⟩ | ⟨n, h⟩
    · obtain ⟨m, hmo, rfl⟩ := hm e.symm
      exact ⟨m, hmo, List.getElem?_set_self (S.lt (x := s) (by rw [h]))⟩
    · rw [List.getElem?_set_ne (Ne.symm n)]; exact S.mil j h
theorem SR.set (S : SR K F Γ σ H) (i : Nat) {v : V} {d : Dt} (r : Rep K F.M H v d) : SR K F (Γ.set i (.dat d)) (σ.set i (some v)) H :=
  S.put i (fun d' e => by cases e; exact r) (fun e => by cases e) fun p d e => by cases e
/-- forget: each slot is as it was, or nothing is known of it -/
def Wk (Γ Γ' : List Sl) : Prop := Γ'.length = Γ.length ∧ ∀ (i : Nat) s, Γ'[i]? = some s → s = .un ∨ Γ[i]? = some s
theorem SR.wk {Γ' : List Sl} (S : SR K F Γ σ H) (w : Wk Γ Γ') : SR K F Γ' σ H where
  len := w.1.trans S.len
  ex := S.ex
  tr := S.tr
  mm := S.mm
  dat := fun i d h => by
    rcases w.2 i _ h with e | e
    · cases e
    · exact S.dat i d e
  own := fun i p d h => by
    rcases w.2 i _ h with e | e
    · cases e
    · exact S.own i p d e
  inj := fun i j p d e h1 h2 => by
    rcases w.2 i _ h1 with q | q
    · cases q
    · rcases w.2 j _ h2 with q' | q'
      · cases q'
      · exact S.inj i j p d e q q'
  mil := fun i h => by
    rcases w.2 i _ h with e | e
    · cases e
    · exact S.mil i e
mutual
/-- a new thing is apart from all data -/
theorem Rep.more {M : Addr → Prop} {p : Addr} (h : H p = none) (hk : K.lookup p = none) : ∀ {v : V} {d : Dt}, Rep K M H v d → Rep K (fun a => M a ∨ a = p) H v d
  | _, _, .non => .non
  | _, _, .bl b => .bl b
  | _, _, .int i => .int i
  | _, _, .str x => .str x
  | _, _, .ty n => .ty n
  | _, _, .cls a => .cls a
  | _, _, .tup n s r => .tup (fun z => by
      rcases z with z | z
      · exact n z
      · subst z
        rcases s with (s | ⟨o, s⟩) | ⟨o, its, k, q, _⟩
        · rw [h] at s; cases s
        · rw [h] at s; cases s
        · rw [hk] at q; cases q) s (RepAll.more h hk r)
  | _, _, .lst n s r => .lst (fun z => by
      rcases z with z | z
      · exact n z
      · subst z; rw [h] at s; cases s) s (RepAll.more h hk r)
  | _, _, .flst n s r => .flst (fun z => by
      rcases z with z | z
      · exact n z
      · subst z
        rcases s with (s | ⟨o, s⟩) | ⟨o, its, k, q, _⟩
        · rw [h] at s; cases s
        · rw [h] at s; cases s
        · rw [hk] at q; cases q) s (RepAll.more h hk r)
  | _, _, .dk n s l r => .dk (fun z => by
      rcases z with z | z
      · exact n z
      · subst z
        rcases s with s | ⟨o, s⟩
        · rw [h] at s; cases s
        · rw [h] at s; cases s) s l (RepAll.more h hk r)
  | _, _, .dt n s l r => .dt (fun z => by
      rcases z with z | z
      · exact n z
      · subst z
        rcases s with s | ⟨o, s⟩
        · rw [h] at s; cases s
        · rw [h] at s; cases s) s l (RepAll.more h hk r)
  | _, _, .obj n s l r => .obj (fun z => by
      rcases z with z | z
      · exact n z
      · subst z; rw [h] at s; cases s) s l (RepAll.more h hk r)
theorem RepAll.more {M : Addr → Prop} {p : Addr} (h : H p = none) (hk : K.lookup p = none) : ∀ {vs : List V} {ds : List Dt}, RepAll K M H vs ds → RepAll K (fun a => M a ∨ a = p) H vs ds
  | _, _, .nil => .nil
  | _, _, .cons r t => .cons (Rep.more h hk r) (RepAll.more h hk t)
end
theorem addM (F : Fc) (p : Addr) : (F.add p).M = fun a => F.M a ∨ a = p := by
  funext a
  unfold Fc.M Fc.add
  simp only [or_assoc]
theorem OwnR.more {M : Addr → Prop} {p q : Addr} {d : Dt} (h : H p = none) (hk : K.lookup p = none) (r : OwnR K M H q d) : OwnR K (fun a => M a ∨ a = p) H q d := by
  cases d with
  | lst ds => obtain ⟨xs, e, r⟩ := r; exact ⟨xs, e, r.more h hk⟩
  | dk ks ds => obtain ⟨xs, e, l, r⟩ := r; exact ⟨xs, e, l, r.more h hk⟩
  | dt ks ds => obtain ⟨xs, e, l, r⟩ := r; exact ⟨xs, e, l, r.more h hk⟩
  | obj C ns ds => obtain ⟨dx, xs, e, l, r⟩ := r; exact ⟨dx, xs, e, l, r.more h hk⟩
  | _ => exact r.elim
/-- a new object at p is owned from now on -/
theorem SR.grow (S : SR K F Γ σ H) {p : Addr} {o : HO} (h : H p = none) (hk : K.lookup p = none) : SR K (F.add p) Γ σ (upd H p o) where
  len := S.len
  ex := (S.ex.mono fun a z => by rcases z with z | z; exact .inl z; exact .inr (.inl z)).chg (.inl (.inr (.inr rfl)))
  tr := fun a z => by
    rw [addM] at z
    by_cases e : a = p
    · subst e; rw [upd_same]; simp
    · rw [upd_ne e]
      rcases z with z | z
      · exact S.tr a z
      · exact absurd z e
  mm := fun m e => by
    obtain ⟨h1, h2⟩ := S.mm m e
    refine ⟨by rw [addM]; exact .inl h1, ?_⟩
    have ne : m ≠ p := fun z => by
      subst z
      obtain ⟨_, _, _, q, _⟩ := h2
      rw [h] at q; cases q
    rw [upd_ne ne]
    exact h2
  dat := fun i d e => by
    obtain ⟨v, a, r⟩ := S.dat i d e
    refine ⟨v, a, ?_⟩
    rw [addM]
    exact (r.more h hk).ext (.new h)
  own := fun i q d e => by
    obtain ⟨a, o', n, r⟩ := S.own i q d e
    refine ⟨a, .inl o', n, ?_⟩
    rw [addM]
    refine (r.more h hk).ext (.new h) fun u z => ?_
    rw [upd_ne (ne_of_none z h)]
    exact z
  inj := S.inj
  mil := S.mil
/-- no more owned: nothing of it in a slot -/
theorem SR.shrink {p : Addr} (S : SR K (F.add p) Γ σ H) (h0 : F.H0 p = none) (wf : ∀ m, F.mo m → F.M m) (hn : ∀ (i : Nat) d, Γ[i]? ≠ some (.own p d)) : SR K F Γ σ H where
  len := S.len
  ex := fun a o n e => S.ex a o (fun z => by
    rcases z with z | z
    · exact n (.inl z)
    · rcases z with z | z
      · exact n (.inr z)
      · subst z
        have e' : F.H0 a = some o := e
        rw [h0] at e'; cases e') e
  tr := fun a z => S.tr a (by rw [addM]; exact .inl z)
  mm := fun m e => ⟨wf m e, (S.mm m e).2⟩
  dat := fun i d e => let ⟨v, a, r⟩ := S.dat i d e; ⟨v, a, r.less fun a z => by rw [addM]; exact .inl z⟩
  own := fun i q d e => by
    obtain ⟨a, o', n, r⟩ := S.own i q d e
    refine ⟨a, ?_, n, r.less fun a z => by rw [addM]; exact .inl z⟩
    rcases o' with z | z
    · exact z
    · subst z; exact absurd e (hn i d)
  inj := S.inj
  mil := S.mil
/-- an owned thing becomes a datum -/
theorem SR.freeze {p : Addr} {i : Nat} {d : Dt} (S : SR K (F.add p) Γ σ H) (h0 : F.H0 p = none) (hp : ¬ F.M p) (wf : ∀ m, F.mo m → F.M m) (hi : Γ[i]? = some (.own p d)) : SR K F (Γ.set i (.dat d)) σ H := by
  obtain ⟨a, o', n, r⟩ := S.own i p d hi
  have r' : OwnR K F.M H p d := r.less fun a z => by rw [addM]; exact .inl z
  have S1 : SR K F (Γ.set i .un) σ H := by
    refine SR.shrink (p := p) (S.wk ⟨by rw [List.length_set], fun j s h => ?_⟩) h0 wf fun j e h => ?_
    · rcases set_at h with ⟨_, e⟩ | ⟨_, h⟩
      · exact .inl e
      · exact .inr h
    · rcases set_at h with ⟨_, e⟩ | ⟨ne, h⟩
      · cases e
      · exact ne (S.inj j i p e d h hi)
  have S2 := S1.set i (r'.rep hp)
  rw [List.set_set] at S2
  have e : σ.set i (some (.ref p)) = σ := by
    apply List.ext_getElem?
    intro j
    by_cases ej : i = j
    · subst ej
      rw [List.getElem?_set_self (by rw [← S.len]; exact (List.getElem?_eq_some_iff.mp hi).1), a]
    · rw [List.getElem?_set_ne ej]
  rw [e] at S2
  exact S2
/-- a change of an owned thing -/
theorem SR.chg {p : Addr} {i : Nat} {d d' : Dt} {o : HO} (S : SR K F Γ σ H) (hi : Γ[i]? = some (.own p d)) (r : OwnR K F.M (upd H p o) p d') : SR K F (Γ.set i (.own p d')) σ (upd H p o) := by
  obtain ⟨a, o', n, r0⟩ := S.own i p d hi
  have hM : F.M p := .inr o'
  have ex : ExtM F.M H (upd H p o) := ExtM.refl.chg (.inl hM)
  have keep : ∀ q, q ≠ p → ∀ u, H q = some u → upd H p o q = some u := fun q hq u e => by rw [upd_ne hq]; exact e
  refine ⟨by rw [List.length_set]; exact S.len, S.ex.chg (.inl (.inr o')), fun b z => ?_, fun m e => ?_, fun j d1 h => ?_, fun j q d1 h => ?_, fun j k q d1 d2 h1 h2 => ?_, fun j h => ?_⟩
  · by_cases e : b = p
    · subst e; rw [upd_same]; simp
    · rw [upd_ne e]; exact S.tr b z
  · obtain ⟨h1, h2⟩ := S.mm m e
    refine ⟨h1, ?_⟩
    rw [upd_ne (fun z => by subst z; exact n e)]
    exact h2
  · rcases set_at h with ⟨_, e⟩ | ⟨_, h⟩
    · cases e
    · obtain ⟨v, b, r⟩ := S.dat j d1 h
      exact ⟨v, b, r.ext ex⟩
  · rcases set_at h with ⟨rfl, e⟩ | ⟨ne, g⟩
    · cases e
      exact ⟨a, o', n, r⟩
    · obtain ⟨b, o2, n2, r2⟩ := S.own j q d1 g
      have hq : q ≠ p := fun z => by subst z; exact ne (S.inj j i q d1 d g hi)
      exact ⟨b, o2, n2, r2.ext ex (keep q hq)⟩
  · rcases set_at h1 with ⟨q1, e1⟩ | ⟨n1, g1⟩
    · rcases set_at h2 with ⟨q2, e2⟩ | ⟨n2, g2⟩
      · exact q1.trans q2.symm
      · cases e1
        exact q1.trans (S.inj k i p d2 d g2 hi).symm
    · rcases set_at h2 with ⟨q2, e2⟩ | ⟨n2, g2⟩
      · cases e2
        exact (S.inj j i p d1 d g1 hi).trans q2.symm
      · exact S.inj j k q d1 d2 g1 g2
  · rcases set_at h with ⟨_, e⟩ | ⟨_, h⟩
    · cases e
    · exact S.mil j h
end

/-! ### what is tracked is not of the written part -/
def KF (K : PySem.W.Frag) (H : Hp) : Prop := ∀ a o, H a = some o → K.lookup a = none
theorem Inv.kf {X : Cx} {pins : List (Addr × Obj)} {σ : St} {H : Hp} {s : Shared} (I : Inv X pins σ H s) : KF X.K H := fun a o e => by
  cases q : X.K.lookup a with
  | none => rfl
  | some u =>
    have := (I.bs a u (I.ok.mod.kin a u q)).2
    rw [e] at this; cases this
theorem tW.kf {X : Cx} {e : Expr} {σ : St} {H : Hp} {Q : VK} (h : tW X e σ H fun v H' => KF X.K H' → Q v H') : tW X e σ H Q := fun pins s I =>
  thn (h pins s I) fun u s' ⟨v, H', I', r, z⟩ => ⟨v, H', I', r, z (Inv.kf I')⟩

/-! ### statements -/
def tWS (X : Cx) (sts : List Stmt) : TS := fun D σ H => ∀ (pins : List (Addr × Obj)) (s : Shared), Inv X pins σ H s → wpAny (model X.prog X.w) X.A (execs sts X.env) (SP X pins D) X.xe s
theorem pss_w {X : Cx} {sts : List Stmt} : PSs X sts (tWS X sts) := ⟨fun pins s σ H Q I h => h pins s I⟩
theorem tWS.of {X : Cx} {sts : List Stmt} {t : TS} (h : PSs X sts t) {σ : St} {H : Hp} {D : Ends} (q : t D σ H) : tWS X sts D σ H := fun pins s I => h.run pins s σ H D I q
def SS (X : Cx) (F : Fc) (Γ : List Sl) (sts : List Stmt) (E : Ends) : Prop := ∀ σ H, SR X.K F Γ σ H → tWS X sts E σ H
/-- what is returned: P of the datum is enough -/
structure RtOk (K : PySem.W.Frag) (F : Fc) (E : Ends) (P : Dt → Prop) : Prop where
  wf : ∀ m, F.mo m → F.M m
  rt : ∀ Γ σ H v d, SR K F Γ σ H → Rep K F.Mc H v d → P d → E.rt v H
structure NxOk (K : PySem.W.Frag) (F : Fc) (E : Ends) (N : List Sl → Prop) : Prop where
  nx : ∀ Γ σ H, SR K F Γ σ H → N Γ → E.nx σ H
theorem RtOk.add {K : PySem.W.Frag} {F : Fc} {E : Ends} {P : Dt → Prop} {p : Addr} (h : RtOk K F E P) (h0 : F.H0 p = none) : RtOk K (F.add p) E P :=
  ⟨fun m e => by rw [addM]; exact .inl (h.wf m e), fun Γ σ H v d S r pd => by
    refine h.rt (Γ.map fun _ => .un) σ H v d (SR.shrink (p := p) (S.wk ⟨by rw [List.length_map], fun i s e => ?_⟩) h0 h.wf fun i d e => ?_) r pd
    · rw [List.getElem?_map] at e
      cases q : Γ[i]? with
      | none => rw [q] at e; cases e
      | some x => rw [q] at e; cases e; exact .inl rfl
    · rw [List.getElem?_map] at e
      cases q : Γ[i]? with
      | none => rw [q] at e; cases e
      | some x => rw [q] at e; cases e⟩
theorem NxOk.add {K : PySem.W.Frag} {F : Fc} {E : Ends} {N : List Sl → Prop} {p : Addr} (h : NxOk K F E N) (h0 : F.H0 p = none) (wf : ∀ m, F.mo m → F.M m) : NxOk K (F.add p) E (fun Γ => (∀ (i : Nat) d, Γ[i]? ≠ some (.own p d)) ∧ N Γ) :=
  ⟨fun Γ σ H S n => h.nx Γ σ H (S.shrink h0 wf n.1) n.2⟩
section
variable {X : Cx} {F : Fc} {Γ : List Sl} {e a b c : Expr} {es : List Expr} {pos p2 : Pos} {P : Dt → Prop} {PT : Bool → Prop} {E : Ends} {rest body : List Stmt} {N : List Sl → Prop}
theorem ss_nil (h : NxOk X.K F E N) (n : N Γ) : SS X F Γ [] E := fun σ H S => tWS.of pss_nil (h.nx Γ σ H S n)
theorem ss_ret (h : RtOk X.K F E P) (he : Ev X F Γ e P) : SS X F Γ (.Return (some e) pos :: rest) E := fun σ H S =>
  tWS.of (pss_cons (ps_ret pe_w) pss_w) (he.then S fun v H1 d k S1 r p => h.rt Γ σ H1 v d S1 (r.less fun a z => .inl z) p)
/-- x = e -/
theorem ss_set {i : Nat} {x : Str} {px : Pos} (hN : X.N.Nodup) (he : Ev X F Γ e fun d => SS X F (Γ.set i (.dat d)) rest E) (hi : X.N[i]? = some x := by rfl) (hx : Loc X.env.scope x := by first | exact Or.inl rfl | exact Or.inr rfl)
    (hs : swapsWith e (some (.Name x px)) pos.line X.env = pure false := by rfl) (hf : X.fn x = true ∨ X.env.scope.names.lookup x = some .local := by first | exact .inl rfl | exact .inr rfl) : SS X F Γ (.Assign [.Name x px] e pos :: rest) E := fun σ H S =>
  tWS.of (pss_cons (ps_set (i := i) hN hi hx pe_w hs hf) pss_w) (he.then S fun v H1 d k S1 r h => h _ _ (S1.set i r))
theorem ss_if {cnd : Expr} {th el : List Stmt} (h : EvT X F Γ cnd fun k => (k = true → SS X F Γ th { E with nx := fun σ H => tWS X rest E σ H }) ∧ (k = false → SS X F Γ el { E with nx := fun σ H => tWS X rest E σ H })) : SS X F Γ (.If cnd th el pos :: rest) E := fun σ H S =>
  tWS.of (pss_cons (ps_if pt_w pss_w pss_w) pss_w) (h.then S fun k H1 k1 S1 ⟨ht, hf⟩ => by
    cases k with
    | true => rw [if_pos rfl]; exact ht rfl σ H1 S1
    | false => rw [if_neg Bool.false_ne_true]; exact hf rfl σ H1 S1)
/-- behind an if: what follows, from the branch's end -/
theorem nx_rest : NxOk X.K F { E with nx := fun σ H => tWS X rest E σ H } (fun Γ => SS X F Γ rest E) := ⟨fun Γ σ H S h => h σ H S⟩
theorem RtOk.nx {K : PySem.W.Frag} {n : St → Hp → Prop} (h : RtOk K F E P) : RtOk K F { E with nx := n } P := ⟨h.wf, h.rt⟩
/-- an expression whose value is dropped -/
theorem ss_expr (he : Ev X F Γ e fun _ => SS X F Γ rest E) (hs : swapsWith e none pos.line X.env = pure false := by rfl) : SS X F Γ (.Expr e pos :: rest) E := fun σ H S =>
  tWS.of (pss_cons (ps_expr pe_w hs) pss_w) (he.then S fun v H1 d k S1 r h => h _ _ S1)
/-- forget slots -/
theorem ss_wk {Γ' : List Sl} {sts : List Stmt} (w : Wk Γ Γ') (h : SS X F Γ' sts E) : SS X F Γ sts E := fun σ H S => h σ H (S.wk w)
theorem ss_freeze {p : Addr} {i : Nat} {d : Dt} {sts : List Stmt} (h0 : F.H0 p = none) (hp : ¬ F.M p) (wf : ∀ m, F.mo m → F.M m) (hi : Γ[i]? = some (.own p d)) (h : SS X F (Γ.set i (.dat d)) sts E) : SS X (F.add p) Γ sts E := fun σ H S => h σ H (S.freeze h0 hp wf hi)

/-! a new list of one's own -/
/-- e gives a new list of the data -/
def EvN (X : Cx) (F : Fc) (Γ : List Sl) (e : Expr) (P : List Dt → Prop) : Prop :=
  ∀ σ H, SR X.K F Γ σ H → tW X e σ H fun v H' => ∃ H1 p xs ds, v = .ref p ∧ Kp F H H1 ∧ H1 p = none ∧ H' = upd H1 p (.lst xs) ∧ RepAll X.K F.M H1 xs ds ∧ P ds
theorem en_lst {PL : List Dt → Prop} (h : EvL X F Γ es fun ds => ds.length ≤ sizeLine ∧ PL ds) : EvN X F Γ (.List es pos) PL := fun σ H S =>
  tW.of (pe_lst pa_w) (h.then S fun vs H1 ds k S1 r ⟨z, p⟩ => ⟨by rw [r.length]; exact z, fun q hq => ⟨H1, q, vs, ds, rfl, k, hq, rfl, r, p⟩⟩)
theorem ss_own {i : Nat} {x : Str} {px : Pos} (hN : X.N.Nodup) (he : EvN X F Γ e fun ds => ∀ p, ¬ F.M p → F.H0 p = none → SS X (F.add p) (Γ.set i (.own p (.lst ds))) rest E) (hi : X.N[i]? = some x := by rfl) (hx : Loc X.env.scope x := by first | exact Or.inl rfl | exact Or.inr rfl)
    (hs : swapsWith e (some (.Name x px)) pos.line X.env = pure false := by rfl) (hf : X.fn x = true ∨ X.env.scope.names.lookup x = some .local := by first | exact .inl rfl | exact .inr rfl) : SS X F Γ (.Assign [.Name x px] e pos :: rest) E := fun σ H S =>
  tWS.of (pss_cons (ps_set (i := i) hN hi hx (pe_w (e := e)) hs hf) pss_w) (tW.kf ((he σ H S).mono fun v H' ⟨H1, p, xs, ds, ev, k, hp, eH, r, h⟩ kf => by
    subst ev eH
    have S1 := S.kp k
    have hk : X.K.lookup p = none := kf p _ upd_same
    have nM := S1.fresh hp
    have nC : ¬ F.Ch p := fun z => by
      rcases z with z | z
      · exact nM (S1.mm p z).1
      · exact nM (.inr z)
    have h0 : F.H0 p = none := by
      cases q : F.H0 p with
      | none => rfl
      | some o => have := S1.ex p o nC q; rw [hp] at this; cases this
    have S2 := S1.grow (o := .lst xs) hp hk
    refine h p nM h0 _ _ (S2.put i (fun d e => by cases e) (fun e => by cases e) fun q d e => ?_)
    cases e
    refine ⟨rfl, .inr rfl, fun z => nC (.inl z), ⟨xs, upd_same, ?_⟩, fun j d e => ?_⟩
    · rw [addM]; exact (r.more hp hk).ext (.new hp)
    · obtain ⟨_, o, _, _⟩ := S1.own j p d e
      exact absurd (.inr o) nM))
/-- xs.append(e), xs one's own -/
theorem ss_append {i : Nat} {x : Str} {p : Addr} {ds : List Dt} {px apos cpos : Pos} (hi : Γ[i]? = some (.own p (.lst ds))) (he : Ev X F Γ e fun d => ds.length < sizeLine ∧ SS X F (Γ.set i (.own p (.lst (ds ++ [d])))) rest E) (hN : X.N[i]? = some x := by rfl) (hv : Vis X.env.scope x := by first | exact Or.inl rfl | exact Or.inr (Or.inl rfl) | exact Or.inr (Or.inr rfl))
    (hd : (x == ("__debug__" : Str)) = false := by decide) (hcd : (x == ("__classdict__" : Str)) = false := by decide)
    (hfew : ((backTo cpos (starEach [e] X.env)).all (fun x => !x.1) && (backToKw cpos (keywordEach [] X.env)).all (fun x => x.1.isSome)
      && decide ([e].length + ([] : List Keyword).length + (if ([] : List Keyword).isEmpty then 0 else 1) < 30)) = true := by rfl) (hbase : attributeBase (.Name x px) "append" X.env (eval (.Name x px) X.env) = eval (.Name x px) X.env := by rfl)
    (hline : (apos.endLine == cpos.line) = true := by rfl) (hst : starEach [e] X.env = (false, eval e X.env) :: starEach [] X.env := by rfl) (hs : swapsWith (.Call (.Attribute (.Name x px) "append" apos) [e] [] cpos) none pos.line X.env = pure false := by rfl) :
    SS X F Γ (.Expr (.Call (.Attribute (.Name x px) "append" apos) [e] [] cpos) pos :: rest) E := fun σ H S =>
  tWS.of (pss_cons (ps_expr (pe_bm PySem.F.plainAttrs_list PySem.F.slot_list_append PySem.F.type_list_append mt_append (pe_var (i := i) hN hv hd hcd) (pa_cons pe_w pa_nil hst) hbase hfew hline hst rfl) hs) pss_w) (by
    obtain ⟨a, o, n, xs, hx, rx⟩ := S.own i p _ hi
    refine ⟨.ref p, a, .inl ⟨rfl, _, SqL.of hx⟩, he.then S fun v H1 d k S1 r ⟨z, h⟩ => ?_⟩
    obtain ⟨_, _, _, ys, hy, ry⟩ := S1.own i p _ hi
    refine ⟨p, ys, v, rfl, rfl, hy, by rw [ry.length]; exact z, ?_⟩
    refine h _ _ (S1.chg hi ⟨ys ++ [v], upd_same, (ry.app (.cons r .nil)).ext (ExtM.refl.chg (.inl (.inr o)))⟩))
end
end DL
/-! DL6: targets, for, list comprehensions. -/
namespace DL
open PySem PySem.Spec PyProof.Rows L2

/-! ### targets -/
inductive Pt where
  | nm (i : Nat) | tp (is : List Nat)
def gNames : List Nat → TGs
  | [] => gNil
  | i :: is => gCons (gName i) (gNames is)
def Pt.g (K : PySem.W.Frag) : Pt → TG
  | .nm i => gName i
  | .tp is => gTup K is.length (gNames is)
def setAll (Γ : List Sl) : List Nat → List Dt → List Sl
  | i :: is, d :: ds => setAll (Γ.set i (.dat d)) is ds
  | _, _ => Γ
def Pt.bind : Pt → Dt → List Sl → Option (List Sl)
  | .nm i, d, Γ => some (Γ.set i (.dat d))
  | .tp is, .tup ds, Γ => if is.length = ds.length then some (setAll Γ is ds) else none
  | _, _, _ => none
def Pt.ix : Pt → List Nat
  | .nm i => [i]
  | .tp is => is
theorem wipe_set {σ : St} {i : Nat} {x : Option V} : ∀ {vs : List Nat}, i ∈ vs → wipe (σ.set i x) vs = wipe σ vs
  | v :: vs, h => by
    unfold wipe
    by_cases e : i ∈ vs
    · rw [wipe_set e]
    · have ei : i = v := by simpa [e] using h
      subst ei
      have : ∀ (ws : List Nat), i ∉ ws → wipe (σ.set i x) ws = (wipe σ ws).set i x := fun ws => by
        induction ws with
        | nil => intro _; rfl
        | cons w ws ih =>
          intro hw
          unfold wipe
          rw [ih (fun z => hw (List.mem_cons_of_mem _ z)), List.set_comm _ _ (fun z => hw (by rw [z]; exact List.mem_cons_self))]
      rw [this vs e, List.set_set]
section
variable {K : PySem.W.Frag} {F : Fc} {Γ Γ' : List Sl} {σ : St} {H : Hp}
theorem names_ok {Q : St → Hp → Prop} : ∀ {is : List Nat} {xs : List V} {ds : List Dt} {Γ : List Sl} {σ : St}, SR K F Γ σ H → RepAll K F.M H xs ds → is.length = ds.length →
    (∀ σ', SR K F (setAll Γ is ds) σ' H → (∀ vs : List Nat, (∀ i ∈ is, i ∈ vs) → wipe σ' vs = wipe σ vs) → Q σ' H) → gNames is xs σ H Q
  | [], _, _, Γ, σ, S, .nil, _, q => ⟨rfl, q σ S fun _ _ => rfl⟩
  | i :: is, _, _, Γ, σ, S, .cons (v := v) (vs := vs) r t, hl, q => by
    refine ⟨v, vs, rfl, ?_⟩
    exact names_ok (S.set i r) t (by simpa using hl) fun σ' S' w => q σ' S' fun ws hw => by
      rw [w ws fun j hj => hw j (List.mem_cons_of_mem _ hj)]
      exact wipe_set (hw i List.mem_cons_self)
theorem Pt.ok {pt : Pt} {v : V} {d : Dt} {Q : St → Hp → Prop} (S : SR K F Γ σ H) (r : Rep K F.M H v d) (hb : pt.bind d Γ = some Γ')
    (q : ∀ σ', SR K F Γ' σ' H → (∀ vs : List Nat, (∀ i ∈ pt.ix, i ∈ vs) → wipe σ' vs = wipe σ vs) → Q σ' H) : pt.g K v σ H Q := by
  cases pt with
  | nm i =>
    cases hb
    exact q _ (S.set i r) fun vs hv => wipe_set (hv i (by simp [Pt.ix]))
  | tp is =>
    cases d with
    | tup ds =>
      simp only [Pt.bind] at hb
      split at hb
      · rename_i hl
        cases hb
        cases r with
        | @tup a xs _ n s r =>
          exact ⟨a, xs, rfl, s, by rw [r.length]; exact hl.symm, names_ok S r hl q⟩
      · cases hb
    | _ => cases hb
/-- later: what may change has changed -/
theorem SR.later {H' : Hp} {C : Addr → Prop} (S : SR K F Γ σ H) (e : ExtM C H H') (hC : ∀ a, C a → F.Ch a) (hM : ∀ a, C a → F.M a) (hno : ∀ (i : Nat) p d, Γ[i]? = some (.own p d) → ¬ C p) (hm : ∀ m, F.mo m → MillC (H' m)) (tr : ∀ a, F.M a → H' a ≠ none) : SR K F Γ σ H' where
  len := S.len
  ex := S.ex.trans (e.mono hC)
  tr := tr
  mm := fun m q => ⟨(S.mm m q).1, hm m q⟩
  dat := fun i d q => let ⟨v, a, r⟩ := S.dat i d q; ⟨v, a, r.ext (e.mono hM)⟩
  own := fun i p d q => let ⟨a, o, n, r⟩ := S.own i p d q; ⟨a, o, n, r.ext (e.mono hM) fun u z => e p u (hno i p d q) z⟩
  inj := S.inj
  mil := S.mil
theorem SR.chM (S : SR K F Γ σ H) : ∀ a, F.Ch a → F.M a := fun a h => by
  rcases h with h | h
  · exact (S.mm a h).1
  · exact .inr h
/-- another heap as the entry -/
theorem SR.base (S : SR K F Γ σ H) : SR K { F with H0 := H } Γ σ H := ⟨S.len, .refl, S.tr, S.mm, S.dat, S.own, S.inj, S.mil⟩
theorem SR.unbase {H1 : Hp} (S : SR K { F with H0 := H1 } Γ σ H) (e : ExtM F.Ch F.H0 H1) : SR K F Γ σ H := ⟨S.len, e.trans S.ex, S.tr, S.mm, S.dat, S.own, S.inj, S.mil⟩
def wipeG (Γ : List Sl) : List Nat → List Sl
  | [] => Γ
  | v :: vs => (wipeG Γ vs).set v .un
theorem SR.wipe1 (S : SR K F Γ σ H) (v : Nat) : SR K F (Γ.set v .un) (σ.set v none) H where
  len := by rw [List.length_set, List.length_set, S.len]
  ex := S.ex
  tr := S.tr
  mm := S.mm
  dat := fun i d h => by
    rcases set_at h with ⟨_, e⟩ | ⟨n, h⟩
    · cases e
    · rw [List.getElem?_set_ne (Ne.symm n)]; exact S.dat i d h
  own := fun i p d h => by
    rcases set_at h with ⟨_, e⟩ | ⟨n, h⟩
    · cases e
    · rw [List.getElem?_set_ne (Ne.symm n)]; exact S.own i p d h
  inj := fun i j p d e h1 h2 => by
    rcases set_at h1 with ⟨_, e⟩ | ⟨n, g1⟩
    · cases e
    · rcases set_at h2 with ⟨_, e⟩ | ⟨n, g2⟩
      · cases e
      · exact S.inj i j p d e g1 g2
  mil := fun i h => by
    rcases set_at h with ⟨_, e⟩ | ⟨n, h⟩
    · cases e
    · rw [List.getElem?_set_ne (Ne.symm n)]; exact S.mil i h
theorem SR.wipe (S : SR K F Γ σ H) : ∀ vs : List Nat, SR K F (wipeG Γ vs) (L2.wipe σ vs) H
  | [] => S
  | v :: vs => (SR.wipe S vs).wipe1 v
end

/-! ### for -/
structure CtOk (K : PySem.W.Frag) (F : Fc) (E : Ends) (N : List Sl → Prop) : Prop where
  ct : ∀ Γ σ H, SR K F Γ σ H → N Γ → E.ct σ H
structure BkOk (K : PySem.W.Frag) (F : Fc) (E : Ends) (N : List Sl → Prop) : Prop where
  bk : ∀ Γ σ H, SR K F Γ σ H → N Γ → E.bk σ H
section
variable {X : Cx} {F : Fc} {Γ : List Sl} {e a b c : Expr} {es : List Expr} {pos p2 : Pos} {P : Dt → Prop} {PT : Bool → Prop} {E : Ends} {rest body : List Stmt} {N : List Sl → Prop}
/-- what a loop's body may lean on -/
structure Lp (X : Cx) (F : Fc) (E : Ends) (rest : List Stmt) (N : List Sl → Prop) (Fl : Fc) (E' : Ends) : Prop where
  mo : Fl.mo = F.mo
  Mc : Fl.Mc = F.Mc
  O : Fl.O = F.O
  rt : ∀ P, RtOk X.K F E P → RtOk X.K Fl E' P
  nx : NxOk X.K Fl E' N
  ct : CtOk X.K Fl E' N
  bk : BkOk X.K Fl E' fun Γ => SS X F Γ rest E
theorem ss_for {tg iter : Expr} (pt : Pt) (hg : PG X tg (pt.g X.K)) (h : EvI X F Γ tg iter fun ds => ∃ I : Nat → List Sl → Prop, I 0 Γ ∧
      (∀ k d Γ', ds[k]? = some d → I k Γ' → ∃ Γ2, pt.bind d Γ' = some Γ2 ∧ ∀ Fl E', Lp X F E rest (I (k + 1)) Fl E' → SS X Fl Γ2 body E') ∧ (∀ Γ', I ds.length Γ' → SS X F Γ' rest E))
    (hp : PassesOwn (model X.prog X.w) X.A X.env X.xe := by exact PassesOwn.never) (hc : X.calm = true := by rfl) (hs : ∀ x, foldedSetIterable iter X.env x = pure x := by intro _; rfl) : SS X F Γ (.For tg iter body [] pos :: rest) E := fun σ H S =>
  tWS.of (pss_cons (ps_for hp hc pi_w hg pss_w hs) pss_w) (h.then S fun J H1 ds k S1 it ⟨I, h0, turn, done⟩ => by
    refine ⟨fun i m σ' H' => m = ds.length - i ∧ i ≤ ds.length ∧ ∃ Γ', SR X.K { F with H0 := H1 } Γ' σ' H' ∧ I i Γ', ⟨ds.length, by simp, Nat.zero_le _, Γ, S1.base, h0⟩, ?_⟩
    rintro i m σ' H' ⟨rfl, hi, Γ', S', hI⟩
    have eM : ExtM F.M H1 H' := ExtM.mono (show ExtM F.Ch H1 H' from S'.ex) S1.chM
    obtain ⟨iy, is⟩ := it F.M .refl i H' eM S'.tr
    by_cases hlt : i < ds.length
    · have hd : ds[i]? = some ds[i] := List.getElem?_eq_getElem hlt
      obtain ⟨go, yl⟩ := iy _ hd
      obtain ⟨Γ2, hb, hbody⟩ := turn i _ Γ' hd hI
      refine .inr ⟨go, fun σ2 H2 => ∃ Γ3, SR X.K { F with H0 := H1 } Γ3 σ2 H2 ∧ I (i + 1) Γ3, fun σ2 H2 ⟨Γ3, S3, I3⟩ => ⟨ds.length - (i + 1), by omega, rfl, hlt, Γ3, S3, I3⟩, fun x H2 y => ?_⟩
      obtain ⟨hn, rx⟩ := yl x H2 y
      have S2 : SR X.K { F with H0 := H1 } Γ' σ' H2 := by
        rcases hn with e | ⟨T, o, hT, e⟩
        · rw [e]; exact S'
        · rw [e]; exact S'.kp (S'.knew hT)
      refine Pt.ok S2 rx hb fun σ3 S3 _ => ?_
      refine hbody { F with H0 := H1 } { nx := fun σ2 H2 => ∃ Γ3, SR X.K { F with H0 := H1 } Γ3 σ2 H2 ∧ I (i + 1) Γ3, rt := E.rt, bk := fun σ2 H2 => tWS X rest E σ2 H2, ct := fun σ2 H2 => ∃ Γ3, SR X.K { F with H0 := H1 } Γ3 σ2 H2 ∧ I (i + 1) Γ3 } ⟨rfl, rfl, rfl, fun P hR => ⟨hR.wf, fun Γ4 σ4 H4 v d S4 r4 p4 => hR.rt Γ4 σ4 H4 v d (S4.unbase S1.ex) r4 p4⟩, ⟨fun Γ4 σ4 H4 S4 n4 => ⟨Γ4, S4, n4⟩⟩, ⟨fun Γ4 σ4 H4 S4 n4 => ⟨Γ4, S4, n4⟩⟩, ⟨fun Γ4 σ4 H4 S4 n4 => n4 σ4 H4 (S4.unbase S1.ex)⟩⟩ _ _ S3
    · have ei : i = ds.length := by omega
      subst ei
      exact .inl ⟨is (Nat.le_refl _), done Γ' hI σ' H' (S'.unbase S1.ex)⟩)

/-! ### list comprehensions -/
def EvB (X : Cx) (F : Fc) (Γ : List Sl) (scope : Scope) (e : Expr) (P : Dt → Prop) : Prop := ∀ (s : Shared) (H : Hp) (C : Addr) (cl : List (Str × Addr)) (fp : List Addr), Ev (X.blk s H scope (compEnvC scope cl C X.env) fp) F Γ e P
def EvTB (X : Cx) (F : Fc) (Γ : List Sl) (scope : Scope) : List Expr → (Bool → Prop) → Prop
  | [], P => P true
  | [c], P => ∀ (s : Shared) (H : Hp) (C : Addr) (cl : List (Str × Addr)) (fp : List Addr), EvT (X.blk s H scope (compEnvC scope cl C X.env) fp) F Γ c P
  | _, _ => False
inductive All2 (R : Dt → Option Dt → Prop) : List Dt → List (Option Dt) → Prop
  | nil : All2 R [] []
  | cons {d o ds os} : R d o → All2 R ds os → All2 R (d :: ds) (o :: os)
theorem All2.snoc {R : Dt → Option Dt → Prop} {d : Dt} {o : Option Dt} (h : R d o) : ∀ {ds os}, All2 R ds os → All2 R (ds ++ [d]) (os ++ [o])
  | _, _, .nil => .cons h .nil
  | _, _, .cons r t => .cons r (All2.snoc h t)
theorem All2.len {R : Dt → Option Dt → Prop} : ∀ {ds os}, All2 R ds os → ds.length = os.length
  | _, _, .nil => rfl
  | _, _, .cons r t => by rw [List.length_cons, List.length_cons, All2.len t]
def tteB (X : Cx) (scope : Scope) (e : Expr) : TE := fun σ H Q => ∀ (s : Shared) (H' : Hp) (C : Addr) (cl : List (Str × Addr)) (fp : List Addr), tW (X.blk s H' scope (compEnvC scope cl C X.env) fp) e σ H Q
def ttsB (X : Cx) (scope : Scope) : List Expr → TT
  | [] => tYes
  | [c] => fun σ H Q => ∀ (s : Shared) (H' : Hp) (C : Addr) (cl : List (Str × Addr)) (fp : List Addr), tWT (X.blk s H' scope (compEnvC scope cl C X.env) fp) c σ H Q
  | _ => fun _ _ _ => False
theorem pts_B {scope : Scope} (ifs : List Expr) (s : Shared) (H : Hp) (C : Addr) (cl : List (Str × Addr)) (fp : List Addr) : PTs (X.blk s H scope (compEnvC scope cl C X.env) fp) ifs (ttsB X scope ifs) := by
  match ifs with
  | [] => exact pts_nil
  | [c] => exact pts_one ⟨fun pins s' σ H' Q I h => h s H C cl fp pins s' I⟩
  | _ :: _ :: _ => exact ⟨fun pins s' σ H' Q I h => h.elim⟩
def gKF (K : PySem.W.Frag) (g : TG) : TG := fun v σ H Q => KF K H → g v σ H Q
theorem pg_kf {Y : Cx} {tg : Expr} {g : TG} (h : PG Y tg g) : PG Y tg (gKF Y.K g) := ⟨fun pins s σ H v u Q I r q => h.run pins s σ H v u Q I r (q (Inv.kf I))⟩
theorem ev_lc {elt tg iter : Expr} {ifs : List Expr} {scope : Scope} {own : List (Str × Nat)} (pt : Pt) (hN : X.N.Nodup) (ok : BlkOk X.N X.env.scope scope own) (hix : ∀ i ∈ pt.ix, i ∈ own.map (·.2))
    (hg : ∀ (s : Shared) (H : Hp) (C : Addr) (cl : List (Str × Addr)) (fp : List Addr), PG (X.blk s H scope (compEnvC scope cl C X.env) fp) tg (pt.g X.K))
    (h : EvI X F Γ tg iter fun ds => ∃ El : Dt → Option Dt → Prop, (∀ d ∈ ds, ∀ D, ∃ Γ2, pt.bind d (wipeG Γ (own.map (·.2))) = some Γ2 ∧ EvTB X (F.add D) Γ2 scope ifs fun b => (b = true → EvB X (F.add D) Γ2 scope elt fun r => El d (some r)) ∧ (b = false → El d none)) ∧
      ds.length ≤ sizeLine ∧ ∀ os, All2 El ds os → P (.lst (os.filterMap id)))
    (hc : X.calm = true := by rfl) (hs : ∀ x, foldedSetIterable iter X.env x = pure x := by intro _; rfl) : Ev X F Γ (.ListComp elt [⟨tg, iter, ifs, 0⟩] scope pos) P := fun σ H S =>
  tW.of (pe_lc (g := gKF X.K (pt.g X.K)) (tt := ttsB X scope ifs) (te := tteB X scope elt) hc hN pi_w ok (fun s H C cl fp => pg_kf (hg s H C cl fp)) (pts_B ifs) (fun s H C cl fp => ⟨fun pins s' σ H' Q I q => q s H C cl fp pins s' I⟩) hs)
    (h.then S fun J H1 ds k S1 it ⟨El, hel, hz, fin⟩ => fun D hD => by
    have nM := S1.fresh hD
    have nmo : ¬ Mo F D := fun z => nM (S1.mm D z).1
    have Sw : SR X.K F (wipeG Γ (own.map (·.2))) (wipe σ (own.map (·.2))) H1 := S1.wipe _
    let W : Nat → Hp → Prop := fun i H' => ExtM (Mo F) H1 H' ∧ (∀ m, F.mo m → MillC (H' m)) ∧ ∃ acc rs os, H' D = some (.lst acc) ∧ RepAll X.K (F.add D).M H' acc rs ∧ All2 El (ds.take i) os ∧ rs = os.filterMap id ∧ acc.length ≤ i
    refine ⟨fun i m H' => m = ds.length - i ∧ i ≤ ds.length ∧ W i H', ⟨ds.length, by simp, Nat.zero_le _, ?_⟩, ?_⟩
    · have k2 := S1.knew (o := .lst []) hD
      exact ⟨k2.1, k2.2, [], [], [], upd_same, .nil, .nil, rfl, Nat.le_refl _⟩
    rintro i m H' ⟨rfl, hi, ex, ml, acc, rs, os, hacc, ra, al, er, hl⟩
    have trF : ∀ a, F.M a → H' a ≠ none := fun a z => by
      by_cases hm : F.mo a
      · obtain ⟨x, y, z, e, _⟩ := ml a hm
        rw [e]; simp
      · cases q : H1 a with
        | none => exact absurd q (S1.tr a z)
        | some o => rw [ex a o hm q]; simp
    obtain ⟨iy, is⟩ := it F.M .refl i H' (ex.mono S1.mox) trF
    by_cases hlt : i < ds.length
    · have hd : ds[i]? = some ds[i] := List.getElem?_eq_getElem hlt
      have etk : ds.take (i + 1) = ds.take i ++ [ds[i]] := by rw [List.take_add_one, hd]; rfl
      obtain ⟨Γ2, hb, hbody⟩ := hel _ (List.getElem_mem hlt) D
      refine .inr ⟨(iy _ hd).1, fun H2 => W (i + 1) H2, fun H2 w => ⟨ds.length - (i + 1), by omega, rfl, hlt, w⟩, fun x H2 y kf => ?_⟩
      have hn := ((iy _ hd).2 x H2 y).1
      have hacc2 : H2 D = some (.lst acc) := by
        rcases hn with e | ⟨T, o, hT, e⟩
        · rw [e]; exact hacc
        · rw [e, upd_ne (ne_of_none hacc hT)]; exact hacc
      have hk : X.K.lookup D = none := kf D _ hacc2
      -- the frame with D
      have S0 : SR X.K (F.add D) (wipeG Γ (own.map (·.2))) (wipe σ (own.map (·.2))) (upd H1 D (.lst [])) := Sw.grow hD hk
      have exD : ∀ {H3 : Hp}, ExtM (Mo F) H1 H3 → ExtM (fun a => Mo F a ∨ a = D) (upd H1 D (.lst [])) H3 := fun {H3} q a o n e => by
        have nD : a ≠ D := fun z => n (.inr z)
        rw [upd_ne nD] at e
        exact q a o (fun z => n (.inl z)) e
      have trD : ∀ {H3 : Hp}, (∀ a, F.M a → H3 a ≠ none) → H3 D ≠ none → ∀ a, (F.add D).M a → H3 a ≠ none := fun {H3} q hd a z => by
        rw [addM] at z
        rcases z with z | z
        · exact q a z
        · rw [z]; exact hd
      have S' : SR X.K (F.add D) (wipeG Γ (own.map (·.2))) (wipe σ (own.map (·.2))) H' := by
        refine S0.later (C := fun a => Mo F a ∨ a = D) (exD ex) (fun a z => ?_) (fun a z => ?_) (fun j p d q z => ?_) ml (trD trF (by rw [hacc]; simp))
        · rcases z with z | z
          · exact .inl z
          · exact .inr (.inr z)
        · rw [addM]
          rcases z with z | z
          · exact .inl (S1.mm a z).1
          · exact .inr z
        · obtain ⟨_, o, n, r⟩ := Sw.own j p d q
          rcases z with z | z
          · exact n z
          · subst z; exact nM (.inr o)
      have fr : Fresh X.K F.M (F.add D).M H1 := ⟨fun a z => by rw [addM]; exact .inl z, fun a z => by
        rw [addM] at z
        rcases z with z | z
        · exact .inl z
        · subst z; exact .inr ⟨hD, hk⟩⟩
      have exN : ExtM (F.add D).M H1 H' := ex.mono fun a z => fr.1 a (S1.mox a z)
      obtain ⟨_, rx⟩ := ((it (F.add D).M fr i H' exN S'.tr).1 _ hd).2 x H2 y
      have kp2 : Kp F H' H2 := by
        rcases hn with e | ⟨T, o, hT, e⟩
        · rw [e]; exact ⟨.refl, ml⟩
        · rw [e]
          refine ⟨.new hT, fun m e' => ?_⟩
          have hm := ml m e'
          have ne : m ≠ T := fun z => by
            subst z
            obtain ⟨_, _, _, q, _⟩ := hm
            rw [hT] at q; cases q
          rw [upd_ne ne]
          exact hm
      have S2 := S'.kp kp2
      have ra2 : RepAll X.K (F.add D).M H2 acc rs := ra.ext (kp2.1.mono fun a z => fr.1 a (S1.mox a z))
      refine Pt.ok S2 rx hb fun σ3 S3 hw => ⟨(hw _ hix).trans (by
        have : ∀ (vs ws : List Nat), (∀ v ∈ vs, v ∈ ws) → wipe (wipe σ vs) ws = wipe σ ws := fun vs ws => by
          induction vs with
          | nil => intro _; rfl
          | cons v vs ih =>
            intro hv
            show wipe ((wipe σ vs).set v none) ws = _
            rw [wipe_set (hv v List.mem_cons_self)]
            exact ih fun u hu => hv u (List.mem_cons_of_mem _ hu)
        exact this _ _ fun _ z => z), ?_⟩
      -- the tests, the element
      have last : ∀ {H3 : Hp}, Kp F H2 H3 → SR X.K (F.add D) Γ2 σ3 H3 → (b : Bool) → ((b = true → EvB X (F.add D) Γ2 scope elt fun r => El ds[i] (some r)) ∧ (b = false → El ds[i] none)) →
          if b = true then tteB X scope elt σ3 H3 fun y H4 => ∃ acc, H4 D = some (.lst acc) ∧ acc.length < sizeLine ∧ W (i + 1) (upd H4 D (.lst (acc ++ [y]))) else W (i + 1) H3 := fun {H3} k3 S3' b hb => by
        have kk : ExtM (Mo F) H1 H3 := (ex.trans kp2.1).trans k3.1
        cases b with
        | false =>
          rw [if_neg Bool.false_ne_true]
          refine ⟨kk, k3.2, acc, rs, os ++ [none], k3.1 D _ nmo hacc2, ra2.ext (k3.1.mono fun a z => fr.1 a (S1.mox a z)), by rw [etk]; exact al.snoc (hb.2 rfl), by rw [List.filterMap_append, er]; simp, by omega⟩
        | true =>
          rw [if_pos rfl]
          intro s5 H5 C5 cl5 fp5
          refine (hb.1 rfl s5 H5 C5 cl5 fp5).then S3' fun v H4 d k4 S4 r4 p4 => ?_
          have k4' : Kp F H3 H4 := k4
          have hD4 : H4 D = some (.lst acc) := k4'.1 D _ nmo (k3.1 D _ nmo hacc2)
          refine ⟨acc, hD4, by omega, (kk.trans k4'.1).chg (.inr hD), fun m e => ?_, acc ++ [v], rs ++ [d], os ++ [some d], upd_same, ?_, by rw [etk]; exact al.snoc p4, by rw [List.filterMap_append, er]; simp, by rw [List.length_append, List.length_singleton]; omega⟩
          · rw [upd_ne (fun z => by subst z; exact nmo e)]
            exact k4'.2 m e
          · refine RepAll.ext (ExtM.refl.chg (.inl (by rw [addM]; exact .inr rfl))) ?_
            exact (ra2.ext ((k3.1.trans k4'.1).mono fun a z => fr.1 a (S1.mox a z))).app (.cons r4 .nil)
      have kself : Kp F H2 H2 := ⟨.refl, kp2.2⟩
      match ifs, hbody with
      | [], hbody => exact last kself S3 true hbody
      | [cnd], hbody => exact fun s5 H5 C5 cl5 fp5 => (hbody s5 H5 C5 cl5 fp5).then S3 fun bb H3 k3 S3' pb => last k3 S3' bb pb
      | _ :: _ :: _, hbody => exact hbody.elim
    · have ei : i = ds.length := by omega
      subst ei
      rw [List.take_length] at al
      refine .inl ⟨is (Nat.le_refl _), k.trans ⟨ex, ml⟩, .lst rs, .lst nM hacc (ra.less fun a z => by rw [addM]; exact .inl z), ?_⟩
      rw [er]
      exact fin os al)
end
end DL
/-! DL7: defs and their calls (with the guards of repr known to be none), the end of a law. -/
namespace DL
open PySem PySem.Spec PyProof.Rows L2

/-! ### room, and no repr around -/
structure RoomG (k : Nat) (A : Around) : Prop where
  room : Room k A
  gd : A.guards = some []
theorem RoomG.mono {j k : Nat} {A : Around} (r : RoomG k A) (h : j ≤ k) : RoomG j A := ⟨r.room.mono h, r.gd⟩
theorem RoomG.deeper {k : Nat} {A : Around} (r : RoomG (k + 1) A) (env : Env) : RoomG k (A.deeper env) := ⟨r.room.deeper env, r.gd⟩
theorem RoomG.hu {k : Nat} {A : Around} (r : RoomG k A) : A.units + 64 < cLine := r.room.units

structure FnG (P : Program) (w : World) (K : PySem.W.Frag) (mg : Str → Option Value) (base : Heap) (k : Nat) (f : Addr) (fd : FuncData) (ps : List Str) (sp : Sp) : Prop where
  len : ∀ vs H Q E, sp vs H Q E → vs.length = ps.length
  run : ∀ (A : Around) (outer : List Env) (s : Shared) (H : Hp) (us : List Value) (vs : List V) (Q : VK), RoomG k A → Env0 P w K mg base A outer s H → BindsTo s fd ⟨us, []⟩ (ps.zip us) → Vals vs us → sp vs H Q E0 →
    codeAny (model P w) A (.call (.ref f) ⟨us, []⟩) (CR CX0 outer P w H s Q E0) s
theorem FnG.mono {P : Program} {w : World} {K : PySem.W.Frag} {mg : Str → Option Value} {base : Heap} {j k : Nat} {f : Addr} {fd : FuncData} {ps : List Str} {sp : Sp} (G : FnG P w K mg base j f fd ps sp) (h : j ≤ k) : FnG P w K mg base k f fd ps sp :=
  ⟨G.len, fun A outer s H us vs Q hr => G.run A outer s H us vs Q (hr.mono h)⟩

/-- a promise on data: R of the arguments and of what is wanted of the result -/
def spD (K : PySem.W.Frag) (R : List Sl → (Dt → Prop) → Prop) : Sp := fun vs H Q _ => ∃ (mo : Addr → Prop) (M : Addr → Prop) (as : List Sl) (P : Dt → Prop),
  (∀ a, M a → H a ≠ none) ∧ (∀ m, mo m → M m ∧ MillC (H m)) ∧ RepSs K mo M H vs as ∧ R as P ∧
  ∀ v H' d, ExtM (fun a => mo a) H H' → (∀ m, mo m → MillC (H' m)) → Rep K M H' v d → P d → Q v H'
/-- the def of a name, its promise -/
structure DFn (P : Program) (w : World) (K : PySem.W.Frag) (mg : Str → Option Value) (base : Heap) (k : Nat) (x : Str) (ps : List Str) (R : List Sl → (Dt → Prop) → Prop) : Prop where
  ex : ∃ f fd, FnG P w K mg base k f fd ps (spD K R) ∧ mg x = some (.ref f) ∧ PySem.W.keepIn K (.ref f) = true ∧ Binds K fd ps []
theorem DFn.mono {P : Program} {w : World} {K : PySem.W.Frag} {mg : Str → Option Value} {base : Heap} {j k : Nat} {x : Str} {ps : List Str} {R : List Sl → (Dt → Prop) → Prop} (G : DFn P w K mg base j x ps R) (h : j ≤ k) : DFn P w K mg base k x ps R :=
  let ⟨f, fd, g, a, b, c⟩ := G.ex
  ⟨f, fd, g.mono h, a, b, c⟩

section
variable {X : Cx} {F : Fc} {Γ : List Sl} {e : Expr} {es : List Expr} {pos p : Pos} {P : Dt → Prop}
theorem pe_callG {k : Nat} {f : Addr} {fd : FuncData} {ps : List Str} {sp : Sp} {x : Str} {t : TA} (G : FnG X.prog X.w X.K X.mg X.base k f fd ps sp) (hr : RoomG k X.A) (hm : X.mg x = some (.ref f)) (hk : PySem.W.keepIn X.K (.ref f) = true) (hb : Binds X.K fd ps []) (ha : PA X (e :: es) t)
    (hg : Gl X x) (hdb : (x == ("__debug__" : Str)) = false) (he : starEach (e :: es) X.env = (false, eval e X.env) :: starEach es X.env) (hpl : (backTo pos (starEach es X.env)).any (·.1) = false) :
    PE X (.Call (.Name x p) (e :: es) [] pos) (fun σ H Q => t σ H fun vs H1 => sp vs H1 Q E0) := by
  refine ⟨fun pins s σ H Q I h => wpAny_Call_Name_kw (ld_glob I hg hm (PySem.W.callWith_K (h₀ := X.base) I.ok.mod.kin hk (thn (ha.run pos pins s σ H _ I h) fun us s1 hh => ?_) he hpl) hdb)⟩
  obtain ⟨vs, H1, J, r, q⟩ := hh
  have hl : us.length = ps.length := by rw [← r.length]; exact G.len _ _ _ _ q
  have hbb := hb s1 us J.kIn (by rw [List.append_nil]; exact hl)
  rw [List.append_nil] at hbb
  refine ⟨J.kIn, wpAny_call (codeAny_mono (G.run X.A X.stack s1 H1 us vs Q hr J.env0 hbb r q) fun res s' hq => ?_)⟩
  match res, hq with
  | .ok (.ret u), hq => exact J.after hq
  | .ok .next, hq => exact hq.elim
  | .ok .brk, hq => exact hq.elim
  | .ok .cont, hq => exact hq.elim
  | .error er, hq => exact hq.elim
/-- a call of an own def -/
theorem ev_call {k j : Nat} {x : Str} {ps : List Str} {R : List Sl → (Dt → Prop) → Prop} (G : DFn X.prog X.w X.K X.mg X.base k x ps R) (hr : RoomG j X.A) (h : EvA X F Γ (e :: es) fun as => R as P) (hkj : k ≤ j := by decide) (hg : Gl X x := by rfl) (hdb : (x == ("__debug__" : Str)) = false := by decide)
    (he : starEach (e :: es) X.env = (false, eval e X.env) :: starEach es X.env := by rfl) (hpl : (backTo pos (starEach es X.env)).any (·.1) = false := by rfl) : Ev X F Γ (.Call (.Name x p) (e :: es) [] pos) P := fun σ H S => by
  obtain ⟨f, fd, g, hm, hk, hb⟩ := G.ex
  exact tW.of (pe_callG g (hr.mono hkj) hm hk hb pa_w hg hdb he hpl) (h.then S fun vs H1 as k1 S1 r hR => ⟨F.mo, F.M, as, P, S1.tr, S1.mm, r, hR, fun v H' d ex ml rv pd => ⟨k1.trans ⟨ex, ml⟩, d, rv, pd⟩⟩)
end

/-! ### a def by its body -/
section
variable {P : Program} {w : World} {K : PySem.W.Frag} {mg : Str → Option Value} {base : Heap}
theorem RepSs.start {mo : Addr → Prop} {M : Addr → Prop} {H : Hp} {vs : List V} {as : List Sl} (r : RepSs K mo M H vs as) : ∀ (i : Nat) s, as[i]? = some s → ∃ v, vs[i]? = some v ∧ RepS K mo M H v s := by
  induction r with
  | nil => intro i s h; simp at h
  | cons h t ih =>
    intro i s e
    match i with
    | 0 => simp at e; subst e; exact ⟨_, rfl, h⟩
    | i + 1 => exact ih i s (by simpa using e)
theorem fn_ofG {k : Nat} {f : Addr} {name qual : Str} {params : Arguments} {body : List Stmt} {scope : Scope} {kV doc pm cdv ct oc : Value} {an od : Option Addr} {osl : Array (Option Value)} {N ps : List Str} {sp : Sp}
    (lk : K.lookup f = some ⟨oc, od, .func (PySem.W.fnOf name qual params body scope .none kV doc pm an cdv ct), osl⟩) (hcd : PySem.W.codeIn K cdv qual = true) (S : FnScope N ps scope) (len : ∀ vs H Q E, sp vs H Q E → vs.length = ps.length)
    (hbody : ∀ (A : Around) (outer : List Env) (s : Shared) (H : Hp) (vs : List V) (Q : VK), RoomG k (A.deeper (envOfC qual scope s.heap.objs.size f cdv)) → sp vs H Q E0 →
      tWS (cxOf CX0 P w K mg base N qual scope f cdv A outer s H E0).nox body { nx := fun _ H' => Q .non H', rt := Q } (start N vs) H) :
    FnG P w K mg base (k + 1) f (PySem.W.fnOf name qual params body scope .none kV doc pm an cdv ct) ps sp := by
  refine ⟨len, fun A outer s H us vs Q hr e0 hb r hsp => ?_⟩
  have KX : K.In s.heap := e0.mod.kin.keeps fun b o e => (e0.bs b o e).1
  have lim := e0.mod.nolimit.keeps fun b o e => (e0.bs b o e).1
  have hpar : ∀ y ∈ ps.zip us, scope.names.lookup y.1 = some .local ∨ (scope.names.lookup y.1 = some .cell ∧ ((cellsFrom (s.heap.objs.size + 1) scope.names []).lookup y.1).isSome = true) := by
    rintro ⟨n, v⟩ hy
    have hn := S.par n (List.of_mem_zip hy).1
    exact hn.imp id fun q => ⟨q, PySem.W.cellsFrom_some _ _ _ (Or.inl q)⟩
  refine codeAny_call_function hr.room.depth (KX _ _ lk) rfl S.co S.gen rfl (PySem.W.codeRec_of KX hcd) (hb _ _ _ _ (wpAny_newFunctionEnv_cells S.kind hpar fun env he s1 x => ?_))
  subst he
  refine ⟨lim.keeps x.toInCall.keep, codeAny_func ?_⟩
  have I := inv_start (CX := CX0) (E := E0) (qual := qual) (f := f) (cd := cdv) S hr.room.hd e0 (len _ _ _ _ hsp) r x
  refine wpAny_mono (hbody A outer s H vs Q (hr.deeper _) hsp [] s1 (I.wish _)) (fun fl s' hs => ?_) fun _ _ z => False.elim z
  match fl, hs with
  | .ret u, ⟨v, σ', H', J, rv, q⟩ => exact ⟨v, H', J.os, J.bare, J.base, J.hok, rv, q⟩
  | .next, ⟨σ', H', J, q⟩ => exact ⟨.non, H', J.os, J.bare, J.base, J.hok, rfl, q⟩
  | .brk, ⟨_, _, _, q⟩ => exact q.elim
  | .cont, ⟨_, _, _, q⟩ => exact q.elim
/-- the state at a def's entry -/
theorem sr_start {mo : Addr → Prop} {M : Addr → Prop} {H : Hp} {vs : List V} {as : List Sl} {N : List Str} (tr : ∀ a, M a → H a ≠ none) (mm : ∀ m, mo m → M m ∧ MillC (H m)) (r : RepSs K mo M H vs as) (hl : vs.length ≤ N.length) :
    SR K ⟨mo, M, fun _ => False, H⟩ (as ++ List.replicate (N.length - as.length) .un) (start N vs) H := by
  have eM : ∀ a, (Fc.mk mo M (fun _ => False) H).M a ↔ M a := fun a => ⟨fun z => z.elim id False.elim, Or.inl⟩
  have gt : ∀ {i : Nat} {s : Sl}, (as ++ List.replicate (N.length - as.length) Sl.un)[i]? = some s → s = .un ∨ as[i]? = some s := fun {i s} h => by
    by_cases hi : i < as.length
    · rw [List.getElem?_append_left hi] at h; exact .inr h
    · rw [List.getElem?_append_right (by omega), List.getElem?_replicate] at h
      split at h
      · cases h; exact .inl rfl
      · cases h
  have sv : ∀ {i : Nat} {v : V}, vs[i]? = some v → (start N vs)[i]? = some (some v) := fun {i v} h => by
    have hi : i < vs.length := (List.getElem?_eq_some_iff.mp h).1
    unfold L2.start
    rw [List.getElem?_append_left (by simpa using hi), List.getElem?_map, h]
    rfl
  refine ⟨?_, .refl, fun a z => tr a ((eM a).1 z), fun m e => ⟨.inl (mm m e).1, (mm m e).2⟩, fun i d h => ?_, fun i p d h => ?_, fun i j p d e h _ => ?_, fun i h => ?_⟩
  · have := r.length
    unfold L2.start
    simp only [List.length_append, List.length_replicate, List.length_map]
    omega
  · rcases gt h with e | e
    · cases e
    · obtain ⟨v, hv, rv⟩ := r.start i _ e
      exact ⟨v, sv hv, Rep.less (M := M) (fun a z => (eM a).1 z) rv⟩
  · rcases gt h with e | e
    · cases e
    · obtain ⟨v, hv, rv⟩ := r.start i _ e
      exact rv.elim
  · rcases gt h with e | e
    · cases e
    · obtain ⟨v, hv, rv⟩ := r.start i _ e
      exact rv.elim
  · rcases gt h with e | e
    · cases e
    · obtain ⟨v, hv, m, hm, rfl⟩ := r.start i _ e
      exact ⟨m, hm, sv hv⟩
/-- THE RULE of a def on data -/
theorem fn_g {x qual : Str} {st : Stmt} {f : Addr} {fd : FuncData} {N ps : List Str} {k : Nat} {R : List Sl → (Dt → Prop) → Prop} (Fn : Fun K x qual st f fd) (S : FnScope N ps (defScope st)) (len : ∀ as P, R as P → as.length = ps.length)
    (hbody : ∀ (cdv : Value) (A : Around) (outer : List Env) (s : Shared) (H : Hp), RoomG k (A.deeper (envOfC qual (defScope st) s.heap.objs.size f cdv)) → ∀ (F : Fc) (as : List Sl) (Pd : Dt → Prop) (E : Ends), R as Pd → F.O = (fun _ => False) → RtOk K F E Pd → NxOk K F E (fun _ => Pd .non) →
      SS (cxOf CX0 P w K mg base N qual (defScope st) f cdv A outer s H E0).nox F (as ++ List.replicate (N.length - as.length) .un) (defBody st) E) : FnG P w K mg base (k + 1) f fd ps (spD K R) := by
  obtain ⟨oc, od, kV, doc, pm, an, cdv, ct, osl, rfl, lk, hcd⟩ := Fn.ex
  have ln : ∀ vs H Q E, spD K R vs H Q E → vs.length = ps.length := fun vs H Q E h => by
    obtain ⟨mo, M, as, Pd, _, _, r, hR, _⟩ := h
    rw [r.length]
    exact len as Pd hR
  refine fn_ofG lk hcd S ln fun A outer s H vs Q hr hsp => ?_
  have hl := ln _ _ _ _ hsp
  obtain ⟨mo, M, as, Pd, tr, mm, r, hR, q⟩ := hsp
  have hN : ps.length ≤ N.length := by
    have := congrArg List.length S.pre
    rw [List.length_take] at this
    omega
  have S0 := sr_start (N := N) tr mm r (by omega)
  have fin : ∀ {Γ : List Sl} {σ : St} {H' : Hp} {v : V} {d : Dt}, SR K ⟨mo, M, fun _ => False, H⟩ Γ σ H' → Rep K M H' v d → Pd d → Q v H' := fun {Γ σ H' v d} S' rv pd =>
    q v H' d (S'.ex.mono fun a z => z.elim id False.elim) (fun m e => (S'.mm m e).2) rv pd
  exact hbody cdv A outer s H hr ⟨mo, M, fun _ => False, H⟩ as Pd _ hR rfl ⟨fun m e => .inl (mm m e).1, fun Γ σ H' v d S' rv pd => fin S' rv pd⟩ ⟨fun Γ σ H' S' pd => fin S' .non pd⟩ _ _ S0
/-- a def of the text, as it stands behind the top -/
structure DefAt (K : PySem.W.Frag) (mg : Str → Option Value) (x : Str) (st : Stmt) (ps : List Str) : Prop where
  ex : ∃ f fd, Fun K x x st f fd ∧ mg x = some (.ref f) ∧ Binds K fd ps []
theorem defAt_mk {x : Str} {st : Stmt} {ps : List Str} {f : Addr} {oc : Value} {od an : Option Addr} {osl : Array (Option Value)} {kV doc pm cdv ct : Value} (l : K.lookup f = some ⟨oc, od, .func (PySem.W.fnOf x x (defArgs st) (defBody st) (defScope st) .none kV doc pm an cdv ct), osl⟩)
    (c : PySem.W.codeIn K cdv x = true) (k : PySem.W.keepIn K (.ref f) = true) (m : mg x = some (.ref f)) (h : ∀ (kV doc pm : Value) (an : Option Addr) (cdv ct : Value) (us : List Value), us.length = ps.length → bindArgs (PySem.W.fnOf x x (defArgs st) (defBody st) (defScope st) .none kV doc pm an cdv ct) ⟨us, []⟩ = pure (ps.zip us)) : DefAt K mg x st ps :=
  ⟨f, _, fun_mk l c k, m, (fun_mk l c k).binds h⟩
theorem fn_at {x : Str} {st : Stmt} {N ps : List Str} {k : Nat} {R : List Sl → (Dt → Prop) → Prop} (D : DefAt K mg x st ps) (S : FnScope N ps (defScope st)) (len : ∀ as P, R as P → as.length = ps.length)
    (hbody : ∀ (f : Addr) (cdv : Value) (A : Around) (outer : List Env) (s : Shared) (H : Hp), RoomG k (A.deeper (envOfC x (defScope st) s.heap.objs.size f cdv)) → ∀ (F : Fc) (as : List Sl) (Pd : Dt → Prop) (E : Ends), R as Pd → F.O = (fun _ => False) → RtOk K F E Pd → NxOk K F E (fun _ => Pd .non) →
      SS (cxOf CX0 P w K mg base N x (defScope st) f cdv A outer s H E0).nox F (as ++ List.replicate (N.length - as.length) .un) (defBody st) E) : DFn P w K mg base (k + 1) x ps R :=
  let ⟨f, fd, Fn, hx, b⟩ := D.ex
  ⟨f, fd, fn_g Fn S len (hbody f), hx, Fn.kp, b⟩
end

/-! ### the end of a law -/
theorem lawG {P : Program} {w : World} {K : PySem.W.Frag} {mg mb : Str → Option Value} {k : Nat} {fa a : Addr} {fd : FuncData} {x : Str} {sp : Sp} {s₁ : Shared} {vs : List Value} {ns : List Int}
    (KX : K.In s₁.heap) (hns : s₁.heap.Ns mainGlobals mg) (hb : s₁.heap.Ns builtinsNs mb) (hbb : ∀ x : Str, x ≠ "__name__" → mb x = bootBuiltins x) (hlim : s₁.heap.NoLimit) (hg : s₁.gens = #[])
    (ha : s₁.heap.get? a = some { cls := .type "list", data := .seq vs.toArray }) (hi : IntsAre vs ns) (hl : ns.length ≤ sizeLine) (hr : RoomG k callerA)
    (G : ∀ base : Heap, K.In base → base.Ns mainGlobals mg → FnG P w K mg base k fa fd [x] sp) (hbind : ∀ (s : Shared) (u : Value), BindsTo s fd ⟨[u], []⟩ [(x, u)])
    (hsp : ∀ H : Hp, SqL K H a (ns.map V.int) → sp [.ref a] H (fun v _ => v = .bl true) E0) :
    codeAny (model P w) callerA (.call (.ref fa) ⟨[.ref a], []⟩) (fun r s' => r = .ok (.ret (.bool true)) ∧ OldK s₁.heap s'.heap ∧ s'.os = s₁.os ∧ AllBare s'.gens) s₁ := by
  let ob : Obj := { cls := .type "list", data := .seq vs.toArray }
  let H : Hp := fun b => if b = a ∧ K.lookup a = none then some (.frz ob (.lst (ns.map V.int))) else none
  have rv := vals_ints hi
  have Hs : ∀ {b : Addr} {u : HO}, H b = some u → b = a ∧ K.lookup a = none ∧ u = .frz ob (.lst (ns.map V.int)) := fun {b u} e => by
    have e' : (if b = a ∧ K.lookup a = none then some (HO.frz ob (.lst (ns.map V.int))) else none) = some u := e
    split at e'
    · rename_i h; cases e'; exact ⟨h.1, h.2, rfl⟩
    · cases e'
  have hok : HOk P w H s₁.heap := fun b u e => by
    obtain ⟨rfl, _, rfl⟩ := Hs e
    exact ⟨ha, by rw [List.length_map]; exact hl, vs, _, rv, ha⟩
  have hS : SqL K H a (ns.map V.int) := by
    cases q : K.lookup a with
    | none => exact .inl (.inr ⟨ob, if_pos ⟨rfl, q⟩⟩)
    | some o =>
      have e := KX a o q
      rw [ha] at e
      cases e
      exact .inr ⟨_, vs.toArray, _, q, rfl, rfl, rfl, by rw [List.size_toArray, hi.length]; exact hl, by simpa using rv⟩
  have un : ∀ {b : Addr} {o : Obj}, s₁.heap.get? b = some o → o ≠ ob → H b = none := fun {b o} e n => by
    cases q : H b with
    | none => rfl
    | some u =>
      obtain ⟨rfl, _, _⟩ := Hs q
      rw [ha] at e
      exact absurd (Option.some.inj e).symm n
  have nsK : ∀ {b : Addr} {m : Str → Option Value}, s₁.heap.Ns b m → (hidT s₁.heap H).Ns b m := by
    rintro b m ⟨o, es, ep, e, d, r⟩
    exact ⟨o, es, ep, hidT_get e (un e fun z => by rw [z] at d; cases d), d, r⟩
  have hKb : K.In (hidT s₁.heap H) := fun b o e => hidT_get (KX b o e) (by
    cases q : H b with
    | none => rfl
    | some u =>
      obtain ⟨rfl, n, _⟩ := Hs q
      rw [n] at e; cases e)
  have hM : Mod K mg (hidT s₁.heap H) := ⟨hKb, nsK hns, ⟨mb, nsK hb, hbb⟩, by obtain ⟨mc, h1, h2⟩ := hlim; exact ⟨mc, nsK h1, h2⟩⟩
  have e0 : Env0 P w K mg (hidT s₁.heap H) callerA [] s₁ H := ⟨rfl, hM, fun b o e => of_hidT e, Nat.le_of_eq (hidT_size _ _), trivial, fun b z => (by cases z), hok, .of_eq hg⟩
  refine codeAny_mono ((G _ hKb (nsK hns)).run callerA [] s₁ H [.ref a] [.ref a] _ hr e0 (hbind s₁ (.ref a)) (.cons rfl .nil) (hsp H hS)) fun r s' h => ?_
  match r, h with
  | .ok (.ret u), h =>
    obtain ⟨v, H', os, bare, un', hok', r', q⟩ := h
    have q' : v = .bl true := q
    subst q'
    have eu : u = Value.bool true := r'
    subst eu
    refine ⟨rfl, OldK.of_keep fun b o e => ?_, os, bare⟩
    cases z : H b with
    | none => exact un'.keep b o e z (fun y => by cases y) (fun y => by cases y)
    | some u =>
      obtain ⟨rfl, _, rfl⟩ := Hs z
      have e2 := (hok' b _ (un'.frzs b _ _ z)).1
      rw [ha] at e
      cases e
      exact e2
  | .ok .next, h => exact h.elim
  | .ok .brk, h => exact h.elim
  | .ok .cont, h => exact h.elim
  | .error er, h => exact h.elim
/-- the goal that k_head leaves, from the law's promise on data: the script is a read-only list of its ints -/
theorem walkG {l : PySem.W.OpenLaw} {n k : Nat} {q : Program} {loose : List Str} {XP : (Str → Option Value) → Heap → Prop} {YP : World → Heap → Prop} {d : DefRec} {K : Params → PySem.W.Frag} {x : Str} {R : List Sl → (Dt → Prop) → Prop}
    (hn : l.most = some n) (hn2 : n ≤ sizeLine) (hdf : d.params.defaults = []) (hr : RoomG k callerA) (hY : ∀ (w : World) (h : Heap), YP w h → (K w.params).In h)
    (G : ∀ (w : World) (mg : Str → Option Value) (fa : Addr) (h : Heap), (K w.params).In h → h.Ns mainGlobals mg → mg d.name = some (.ref fa) →
      ∃ fd : FuncData, (∀ (s : Shared) (u : Value), BindsTo s fd ⟨[u], []⟩ [(x, u)]) ∧ ∀ base : Heap, (K w.params).In base → base.Ns mainGlobals mg → FnG l.prog w (K w.params) mg base k fa fd [x] (spD (K w.params) R))
    (hR : ∀ ns : List Int, ns.length ≤ n → R [.dat (.flst (ns.map Dt.int))] fun d => d = .bl true) : PySem.W.WalkO q loose XP YP l.row.toRowW d [] (fun f vs => PySem.call f vs) := by
  refine Att.attach_call hn hdf fun w s₀ s₁ mg mb fa o pm cd doc a vs ns Gr Y ho hd hcd hmg hobj hints hlen hgen => ?_
  have KX := hY w _ Y
  obtain ⟨fd, hb, hG⟩ := G w mg fa _ KX Gr.T.g hmg
  refine lawG KX Gr.T.g Gr.T.b Gr.T.builtins Gr.T.nolimit hgen hobj hints (Nat.le_trans hlen hn2) hr hG hb fun H hS => ?_
  refine ⟨fun _ => False, fun _ => False, [.dat (.flst (ns.map Dt.int))], fun d => d = .bl true, fun _ z => z.elim, fun m e => e.elim, .cons ?_ .nil, hR ns hlen, fun v H' d _ _ rv e => ?_⟩
  · exact Rep.flst (fun z => z) hS (RepAll.of_ints ns)
  · subst e; cases rv; rfl
end DL
/-! DL8: constants, the mill's own rules, new lists handed back, tuples of targets. -/
namespace DL
open PySem PySem.Spec PyProof.Rows L2

section
variable {X : Cx} {F : Fc} {Γ : List Sl} {e a b c : Expr} {es : List Expr} {pos p2 : Pos} {P : Dt → Prop} {PT : Bool → Prop} {E : Ends} {rest body : List Stmt} {N : List Sl → Prop}
theorem ev_gint {x : Str} {i : Int} {t : Tok} (hm : X.mg x = some (.int i t)) (p : P (.int i)) (hg : Gl X x := by rfl) (hd : (x == ("__debug__" : Str)) = false := by decide) : Ev X F Γ (.Name x pos) P :=
  ev_glob (v := .int i) hm ⟨t, rfl⟩ (fun _ _ _ => .int i) p hg hd
/-! ### the mill -/
def MillB (i : Nat) (n : Int) : Prop := (i = 0 → 0 ≤ n ∧ n < 2 ^ 3000) ∧ (i = 1 → 0 ≤ n ∧ n < 2 ^ 62)
/-- mill[i] -/
theorem ev_milIx {i j : Nat} {x : Str} {px pj : Pos} {kj} (hi : Γ[i]? = some .mil) (hj : j < 3) (h : ∀ n, MillB j n → P (.int n)) (hN : X.N[i]? = some x := by rfl) (hv : Vis X.env.scope x := by first | exact Or.inl rfl | exact Or.inr (Or.inl rfl) | exact Or.inr (Or.inr rfl))
    (hd : (x == ("__debug__" : Str)) = false := by decide) (hcd : (x == ("__classdict__" : Str)) = false := by decide) : Ev X F Γ (.Subscript (.Name x px) (.Constant (.int (j : Int)) kj pj) pos) P := fun σ H S =>
  tW.of (pe_ix ix_list (pe_var (i := i) hN hv hd hcd) pe_int (fun _ _ => rfl)) (by
    obtain ⟨m, hm, e⟩ := S.mil i hi
    obtain ⟨_, x0, x1, x2, em, h0, h1, h2, h3⟩ := S.mm m hm
    have go : ∀ {n : Int}, atI [V.int x0, .int x1, .int x2] (j : Int) = some (V.int n) → MillB j n → tOp (rIxL X.K) (tVar i) (tC (.int (j : Int))) σ H fun v H' => Kp F H H' ∧ ∃ d, Rep X.K F.M H' v d ∧ P d := fun {n} q hb =>
      ⟨.ref m, e, m, _, _, _, rfl, rfl, SqL.of em, q, S.refl, _, .int n, h n hb⟩
    match j, hj with
    | 0, _ => exact go (n := x0) rfl ⟨fun _ => ⟨h0, h1⟩, fun z => by cases z⟩
    | 1, _ => exact go (n := x1) rfl ⟨fun z => (by cases z), fun _ => ⟨h2, h3⟩⟩
    | 2, _ => exact go (n := x2) rfl ⟨fun z => (by cases z), fun z => (by cases z)⟩)
/-- mill[j] = e -/
theorem ss_milSet {i j : Nat} {x : Str} {px pj ps : Pos} {kj} (hi : Γ[i]? = some .mil) (hj : j < 3) (he : Ev X F Γ e fun d => ∃ n, d = .int n ∧ MillB j n ∧ SS X F Γ rest E) (hN : X.N[i]? = some x := by rfl) (hv : Vis X.env.scope x := by first | exact Or.inl rfl | exact Or.inr (Or.inl rfl) | exact Or.inr (Or.inr rfl))
    (hd : (x == ("__debug__" : Str)) = false := by decide) (hcd : (x == ("__classdict__" : Str)) = false := by decide) (hs : swapsWithSole [.Subscript (.Name x px) (.Constant (.int (j : Int)) kj pj) ps] e pos.line X.env = pure false := by rfl)
    (hw : swappedStores [.Subscript (.Name x px) (.Constant (.int (j : Int)) kj pj) ps] e X.env = pure none := by rfl) :
    SS X F Γ (.Assign [.Subscript (.Name x px) (.Constant (.int (j : Int)) kj pj) ps] e pos :: rest) E := fun σ H S =>
  tWS.of (pss_cons (ps_asg pe_w (pg_sub (pe_var (i := i) hN hv hd hcd) pe_int set_list) hs hw) pss_w) (he.then S fun v H1 d k S1 r ⟨n, ed, hb, h⟩ => by
    subst ed
    cases r
    obtain ⟨m, hm, em⟩ := S1.mil i hi
    obtain ⟨hM, x0, x1, x2, e1, h0, h1, h2, h3⟩ := S1.mm m hm
    have nown : ∀ (k : Nat) p d, Γ[k]? = some (.own p d) → p ≠ m := fun k p d q z => by
      subst z
      exact (S1.own k p d q).2.2.1 hm
    have go : ∀ {xs : List V}, ixN [V.int x0, .int x1, .int x2].length (j : Int) = some j → ([V.int x0, .int x1, .int x2].set j (.int n)) = xs → MillC (some (.lst xs)) → gSub (tVar i) (tC (.int (j : Int))) rSetL (.int n) σ H1 (tWS X rest E) := fun {xs} q1 q2 hc => by
      refine ⟨.ref m, em, m, _, _, j, rfl, rfl, e1, q1, h σ _ ?_⟩
      rw [q2]
      refine S1.later (C := fun a => a = m) (fun a o na q => by rw [upd_ne na]; exact q) (fun a z => .inl (z ▸ hm)) (fun a z => z ▸ hM) (fun k p d q => nown k p d q) (fun m' e' => ?_) (fun a z => ?_)
      · by_cases em' : m' = m
        · subst em'
          rw [upd_same]
          exact hc
        · rw [upd_ne em']
          exact (S1.mm m' e').2
      · by_cases ea : a = m
        · subst ea; rw [upd_same]; simp
        · rw [upd_ne ea]; exact S1.tr a z
    match j, hj, hb with
    | 0, _, hb => exact go rfl rfl ⟨n, x1, x2, rfl, (hb.1 rfl).1, (hb.1 rfl).2, h2, h3⟩
    | 1, _, hb => exact go rfl rfl ⟨x0, n, x2, rfl, h0, h1, (hb.2 rfl).1, (hb.2 rfl).2⟩
    | 2, _, hb => exact go rfl rfl ⟨x0, x1, n, rfl, h0, h1, h2, h3⟩)
/-- a list of one's own becomes the mill -/
theorem ss_toMil {p : Addr} {i : Nat} {x0 x1 x2 : Int} {sts : List Stmt} (hi : Γ[i]? = some (.own p (.lst [.int x0, .int x1, .int x2]))) (h0 : 0 ≤ x0 ∧ x0 < 2 ^ 3000) (h1 : 0 ≤ x1 ∧ x1 < 2 ^ 62) (h : SS X { F with mo := fun a => F.mo a ∨ a = p } (Γ.set i .mil) sts E) : SS X F Γ sts E := fun σ H S => by
  obtain ⟨a, o, n, xs, hx, rx⟩ := S.own i p _ hi
  have ex : xs = [.int x0, .int x1, .int x2] := by
    cases rx with
    | cons r1 r => cases r with | cons r2 r => cases r with | cons r3 r => cases r; cases r1; cases r2; cases r3; rfl
  subst ex
  refine h σ H ⟨by rw [List.length_set]; exact S.len, S.ex.mono fun b z => ?_, S.tr, fun m e => ?_, fun j d q => ?_, fun j q d g => ?_, fun j k q d e g1 g2 => ?_, fun j g => ?_⟩
  · rcases z with z | z
    · exact .inl (.inl z)
    · exact .inr z
  · rcases e with e | e
    · exact S.mm m e
    · subst e; exact ⟨.inr o, x0, x1, x2, hx, h0.1, h0.2, h1.1, h1.2⟩
  · rcases set_at q with ⟨_, e⟩ | ⟨_, q⟩
    · cases e
    · exact S.dat j d q
  · rcases set_at g with ⟨_, e⟩ | ⟨nj, g⟩
    · cases e
    · obtain ⟨a', o', n', r'⟩ := S.own j q d g
      refine ⟨a', o', fun z => ?_, r'⟩
      rcases z with z | z
      · exact n' z
      · rw [z] at g; exact nj (S.inj j i p d _ g hi)
  · rcases set_at g1 with ⟨_, e⟩ | ⟨_, g1⟩
    · cases e
    · rcases set_at g2 with ⟨_, e⟩ | ⟨_, g2⟩
      · cases e
      · exact S.inj j k q d e g1 g2
  · rcases set_at g with ⟨rfl, _⟩ | ⟨_, g⟩
    · exact ⟨p, .inr rfl, a⟩
    · obtain ⟨m, hm, e⟩ := S.mil j g
      exact ⟨m, .inl hm, e⟩
theorem RtOk.mil {K : PySem.W.Frag} {p : Addr} (hp : F.O p) (h : RtOk K F E P) : RtOk K { F with mo := fun a => F.mo a ∨ a = p } E P :=
  ⟨fun m e => by rcases e with e | e; exact h.wf m e; subst e; exact .inr hp, fun Γ σ H v d S r pd => h.rt (Γ.map fun _ => .un) σ H v d (by
    have g : ∀ {i : Nat} {s : Sl}, (Γ.map fun _ => Sl.un)[i]? = some s → s = .un := fun {i s} q => by
      rw [List.getElem?_map] at q
      cases z : Γ[i]? with
      | none => rw [z] at q; cases q
      | some x => rw [z] at q; cases q; rfl
    refine ⟨by rw [List.length_map]; exact S.len, S.ex.mono fun b z => ?_, S.tr, fun m e => S.mm m (.inl e), fun i d q => (by cases g q), fun i q d z => (by cases g z), fun i j q d e z _ => (by cases g z), fun i q => (by cases g q)⟩
    rcases z with (z | z) | z
    · exact .inl z
    · exact .inr (z ▸ hp)
    · exact .inr z) r pd⟩

/-! ### a def that hands back a new list -/
def spN (K : PySem.W.Frag) (R : List Sl → (List Dt → Prop) → Prop) : Sp := fun vs H Q _ => ∃ (mo : Addr → Prop) (M : Addr → Prop) (as : List Sl) (P : List Dt → Prop),
  (∀ a, M a → H a ≠ none) ∧ (∀ m, mo m → M m ∧ MillC (H m)) ∧ RepSs K mo M H vs as ∧ R as P ∧
  ∀ H1 p xs ds, ExtM (fun a => mo a) H H1 → (∀ m, mo m → MillC (H1 m)) → H1 p = none → RepAll K M H1 xs ds → P ds → Q (.ref p) (upd H1 p (.lst xs))
structure DFnN (P : Program) (w : World) (K : PySem.W.Frag) (mg : Str → Option Value) (base : Heap) (k : Nat) (x : Str) (ps : List Str) (R : List Sl → (List Dt → Prop) → Prop) : Prop where
  ex : ∃ f fd, FnG P w K mg base k f fd ps (spN K R) ∧ mg x = some (.ref f) ∧ PySem.W.keepIn K (.ref f) = true ∧ Binds K fd ps []
theorem en_call {k j : Nat} {x : Str} {p : Pos} {ps : List Str} {R : List Sl → (List Dt → Prop) → Prop} {PL : List Dt → Prop} (G : DFnN X.prog X.w X.K X.mg X.base k x ps R) (hr : RoomG j X.A) (h : EvA X F Γ (e :: es) fun as => R as PL) (hkj : k ≤ j := by decide) (hg : Gl X x := by rfl) (hdb : (x == ("__debug__" : Str)) = false := by decide)
    (he : starEach (e :: es) X.env = (false, eval e X.env) :: starEach es X.env := by rfl) (hpl : (backTo pos (starEach es X.env)).any (·.1) = false := by rfl) : EvN X F Γ (.Call (.Name x p) (e :: es) [] pos) PL := fun σ H S => by
  obtain ⟨f, fd, g, hm, hk, hb⟩ := G.ex
  exact tW.of (pe_callG g (hr.mono hkj) hm hk hb pa_w hg hdb he hpl) (h.then S fun vs H1 as k1 S1 r hR => ⟨F.mo, F.M, as, PL, S1.tr, S1.mm, r, hR, fun H2 q xs ds ex ml hq rv pd => ⟨H2, q, xs, ds, rfl, k1.trans ⟨ex, ml⟩, hq, rfl, rv, pd⟩⟩)
/-- a new list is a datum -/
theorem EvN.ev {PL : List Dt → Prop} (h : EvN X F Γ e PL) (q : ∀ ds, PL ds → P (.lst ds)) : Ev X F Γ e P := fun σ H S => (h σ H S).mono fun v H' ⟨H1, p, xs, ds, ev, k, hp, eH, r, pd⟩ => by
  subst ev eH
  have S1 := S.kp k
  have k2 := S1.knew (o := .lst xs) hp
  exact ⟨k.trans k2, .lst ds, .lst (S1.fresh hp) upd_same (r.ext (k2.extx S1)), q ds pd⟩
structure RtN (K : PySem.W.Frag) (F : Fc) (E : Ends) (P : List Dt → Prop) : Prop where
  rt : ∀ Γ σ H1 p xs ds, SR K F Γ σ H1 → H1 p = none → RepAll K F.Mc H1 xs ds → P ds → E.rt (.ref p) (upd H1 p (.lst xs))
theorem ss_retN {PL : List Dt → Prop} (h : RtN X.K F E PL) (he : EvN X F Γ e PL) : SS X F Γ (.Return (some e) pos :: rest) E := fun σ H S =>
  tWS.of (pss_cons (ps_ret pe_w) pss_w) ((he σ H S).mono fun v H' ⟨H1, p, xs, ds, ev, k, hp, eH, r, pd⟩ => by
    subst ev eH
    exact h.rt Γ σ H1 p xs ds (S.kp k) hp (r.less fun a z => .inl z) pd)
end
section
variable {P : Program} {w : World} {K : PySem.W.Frag} {mg : Str → Option Value} {base : Heap}
theorem fn_atN {x : Str} {st : Stmt} {N ps : List Str} {k : Nat} {R : List Sl → (List Dt → Prop) → Prop} (D : DefAt K mg x st ps) (S : FnScope N ps (defScope st)) (len : ∀ as P, R as P → as.length = ps.length)
    (hbody : ∀ (f : Addr) (cdv : Value) (A : Around) (outer : List Env) (s : Shared) (H : Hp), RoomG k (A.deeper (envOfC x (defScope st) s.heap.objs.size f cdv)) → ∀ (F : Fc) (as : List Sl) (Pd : List Dt → Prop) (E : Ends), R as Pd → F.O = (fun _ => False) → RtN K F E Pd →
      SS (cxOf CX0 P w K mg base N x (defScope st) f cdv A outer s H E0).nox F (as ++ List.replicate (N.length - as.length) .un) (defBody st) E) : DFnN P w K mg base (k + 1) x ps R := by
  obtain ⟨f, fd, Fn, hx, b⟩ := D.ex
  obtain ⟨oc, od, kV, doc, pm, an, cdv, ct, osl, rfl, lk, hcd⟩ := id Fn.ex
  have ln : ∀ vs H Q E, spN K R vs H Q E → vs.length = ps.length := fun vs H Q E h => by
    obtain ⟨mo, M, as, Pd, _, _, r, hR, _⟩ := h
    rw [r.length]
    exact len as Pd hR
  refine ⟨f, _, fn_ofG lk hcd S ln fun A outer s H vs Q hr hsp => ?_, hx, Fn.kp, b⟩
  have hl := ln _ _ _ _ hsp
  obtain ⟨mo, M, as, Pd, tr, mm, r, hR, q⟩ := hsp
  have hN : ps.length ≤ N.length := by
    have := congrArg List.length S.pre
    rw [List.length_take] at this
    omega
  have S0 := sr_start (N := N) tr mm r (by omega)
  exact hbody f cdv A outer s H hr ⟨mo, M, fun _ => False, H⟩ as Pd _ hR rfl ⟨fun Γ σ H1 p xs ds S' hp rv pd => q H1 p xs ds (S'.ex.mono fun a z => z.elim id False.elim) (fun m e => (S'.mm m e).2) hp rv pd⟩ _ _ S0
end
end DL
/-! DL9: several targets, list(text), a list drawn empty by pop in a comprehension. -/
namespace DL
open PySem PySem.Spec PyProof.Rows L2

section
variable {X : Cx} {F : Fc} {Γ : List Sl} {e a b c : Expr} {es : List Expr} {pos p2 : Pos} {P : Dt → Prop} {PT : Bool → Prop} {E : Ends} {rest body : List Stmt} {N : List Sl → Prop}
/-- a, b = e1, e2 -/
theorem ss_par2 {i j : Nat} {x y : Str} {px py pt : Pos} {kt k2 pt2} (hN : X.N.Nodup) (h : Ev X F Γ a fun d1 => Ev X F Γ b fun d2 => SS X F ((Γ.set i (.dat d1)).set j (.dat d2)) rest E) (hi : X.N[i]? = some x := by rfl) (hj : X.N[j]? = some y := by rfl) (hij : i ≠ j := by decide)
    (hx : X.env.scope.names.lookup x = some .local := by rfl) (hy : X.env.scope.names.lookup y = some .local := by rfl) (hc : X.calm = true := by rfl)
    (hw : swappedStores [.Tuple [.Name x px, .Name y py] kt pt] (.Tuple [a, b] k2 pt2) X.env = pure (some [x, y]) := by rfl) (hs : swapsWithSole [.Tuple [.Name x px, .Name y py] kt pt] (.Tuple [a, b] k2 pt2) pos.line X.env = pure false := by rfl)
    (s1 : starEach [a, b] X.env = (false, eval a X.env) :: starEach [b] X.env := by rfl) (s2 : starEach [b] X.env = (false, eval b X.env) :: starEach [] X.env := by rfl) :
    SS X F Γ (.Assign [.Tuple [.Name x px, .Name y py] kt pt] (.Tuple [a, b] k2 pt2) pos :: rest) E := fun σ H S =>
  tWS.of (pss_cons (ps_par (i := i) (j := j) hc hN hi hj hij hx hy (pa_cons pe_w (pa_cons pe_w pa_nil s2) s1) hw hs) pss_w) (h.then S fun v1 H1 d1 k1 S1 r1 h2 => h2.then S1 fun v2 H2 d2 k2 S2 r2 h3 =>
    ⟨v1, v2, rfl, h3 _ _ ((S2.set i (S1.rep k2 r1)).set j r2)⟩)
theorem ss_par3 {i j l : Nat} {x y z : Str} {px py pz pt : Pos} {kt k2 pt2} (hN : X.N.Nodup) (h : Ev X F Γ a fun d1 => Ev X F Γ b fun d2 => Ev X F Γ c fun d3 => SS X F (((Γ.set i (.dat d1)).set j (.dat d2)).set l (.dat d3)) rest E) (hi : X.N[i]? = some x := by rfl) (hj : X.N[j]? = some y := by rfl) (hl : X.N[l]? = some z := by rfl) (hij : i ≠ j := by decide) (hil : i ≠ l := by decide) (hjl : j ≠ l := by decide)
    (hx : X.env.scope.names.lookup x = some .local := by rfl) (hy : X.env.scope.names.lookup y = some .local := by rfl) (hz : X.env.scope.names.lookup z = some .local := by rfl) (hc : X.calm = true := by rfl)
    (hw : swappedStores [.Tuple [.Name x px, .Name y py, .Name z pz] kt pt] (.Tuple [a, b, c] k2 pt2) X.env = pure (some [x, y, z]) := by rfl) (hs : swapsWithSole [.Tuple [.Name x px, .Name y py, .Name z pz] kt pt] (.Tuple [a, b, c] k2 pt2) pos.line X.env = pure false := by rfl)
    (s1 : starEach [a, b, c] X.env = (false, eval a X.env) :: starEach [b, c] X.env := by rfl) (s2 : starEach [b, c] X.env = (false, eval b X.env) :: starEach [c] X.env := by rfl) (s3 : starEach [c] X.env = (false, eval c X.env) :: starEach [] X.env := by rfl) :
    SS X F Γ (.Assign [.Tuple [.Name x px, .Name y py, .Name z pz] kt pt] (.Tuple [a, b, c] k2 pt2) pos :: rest) E := fun σ H S =>
  tWS.of (pss_cons (ps_par3 (i := i) (j := j) (l := l) hc hN hi hj hl hij hil hjl hx hy hz (pa_cons pe_w (pa_cons pe_w (pa_cons pe_w pa_nil s3) s2) s1) hw hs) pss_w) (h.then S fun v1 H1 d1 k1 S1 r1 h2 => h2.then S1 fun v2 H2 d2 k2 S2 r2 h3 => h3.then S2 fun v3 H3 d3 k3 S3 r3 h4 =>
    ⟨v1, v2, v3, rfl, h4 _ _ (((S3.set i (S2.rep k3 (S1.rep k2 r1))).set j (S2.rep k3 r2)).set l r3)⟩)
theorem SR.fresh0 {K : PySem.W.Frag} {σ : St} {H : Hp} (S : SR K F Γ σ H) {p : Addr} (hp : H p = none) : F.H0 p = none := by
  have nM := S.fresh hp
  cases q : F.H0 p with
  | none => rfl
  | some o =>
    have := S.ex p o (fun z => nM (S.chM p z)) q
    rw [hp] at this; cases this
/-- a, b = a new list, e2 -/
theorem ss_parN {i j : Nat} {x y : Str} {px py pt : Pos} {kt k2 pt2} (hN : X.N.Nodup) (h : EvN X F Γ a fun ds => ∀ p, ¬ F.M p → F.H0 p = none → Ev X (F.add p) Γ b fun d2 => SS X (F.add p) ((Γ.set i (.own p (.lst ds))).set j (.dat d2)) rest E) (hi : X.N[i]? = some x := by rfl) (hj : X.N[j]? = some y := by rfl) (hij : i ≠ j := by decide)
    (hx : X.env.scope.names.lookup x = some .local := by rfl) (hy : X.env.scope.names.lookup y = some .local := by rfl) (hc : X.calm = true := by rfl)
    (hw : swappedStores [.Tuple [.Name x px, .Name y py] kt pt] (.Tuple [a, b] k2 pt2) X.env = pure (some [x, y]) := by rfl) (hs : swapsWithSole [.Tuple [.Name x px, .Name y py] kt pt] (.Tuple [a, b] k2 pt2) pos.line X.env = pure false := by rfl)
    (s1 : starEach [a, b] X.env = (false, eval a X.env) :: starEach [b] X.env := by rfl) (s2 : starEach [b] X.env = (false, eval b X.env) :: starEach [] X.env := by rfl) :
    SS X F Γ (.Assign [.Tuple [.Name x px, .Name y py] kt pt] (.Tuple [a, b] k2 pt2) pos :: rest) E := fun σ H S =>
  tWS.of (pss_cons (ps_par (i := i) (j := j) hc hN hi hj hij hx hy (pa_cons pe_w (pa_cons pe_w pa_nil s2) s1) hw hs) pss_w) (tW.kf ((h σ H S).mono fun v H' ⟨H1, p, xs, ds, ev, k, hp, eH, r, h2⟩ kf => by
    subst ev eH
    have S1 := S.kp k
    have hk : X.K.lookup p = none := kf p _ upd_same
    have nM := S1.fresh hp
    have S2 := S1.grow (o := .lst xs) hp hk
    have rx : RepAll X.K (F.add p).M (upd H1 p (.lst xs)) xs ds := by rw [addM]; exact (r.more hp hk).ext (.new hp)
    refine (h2 p nM (S1.fresh0 hp)).then S2 fun v2 H3 d2 k3 S3 r3 h4 => ⟨.ref p, v2, rfl, h4 _ _ (SR.set ?_ j r3)⟩
    have npmo : ¬ F.mo p := fun z => nM (S1.mm p z).1
    refine S3.put i (fun d e => by cases e) (fun e => by cases e) fun q d e => ?_
    cases e
    refine ⟨rfl, .inr rfl, npmo, ⟨xs, k3.1 p _ npmo upd_same, rx.ext (k3.1.mono fun a z => (S2.mm a z).1)⟩, fun l d e => ?_⟩
    obtain ⟨_, o, _, _⟩ := S1.own l p d e
    exact absurd (.inr o) nM))
/-! new lists by list(..) -/
theorem en_listOf {x : Expr} {p : Pos} {PL : List Dt → Prop} (hm : X.mg "list" = none) (h : Ev X F Γ x fun d => ∃ ds, seqD d = some ds ∧ PL ds) (hg : Gl X "list" := by rfl) (he : starEach [x] X.env = (false, eval x X.env) :: starEach [] X.env := by rfl) : EvN X F Γ (.Call (.Name "list" p) [x] [] pos) PL := fun σ H S =>
  tW.of (pe_callTy call_list_of hg hm (by decide +kernel) (pa_cons pe_w pa_nil he) (by decide) (by decide) he rfl) (h.then S fun v H1 d k S1 r hd => by
    obtain ⟨ds, e, p⟩ := hd
    cases r with
    | tup n s r => cases e; exact ⟨_, _, rfl, .inr s, fun l hl => ⟨H1, l, _, _, rfl, k, hl, rfl, r, p⟩⟩
    | lst n s r => cases e; exact ⟨_, _, rfl, .inl (SqL.of s), fun l hl => ⟨H1, l, _, _, rfl, k, hl, rfl, r, p⟩⟩
    | flst n s r => cases e; exact ⟨_, _, rfl, .inl s, fun l hl => ⟨H1, l, _, _, rfl, k, hl, rfl, r, p⟩⟩
    | _ => cases e)
theorem call_listS (hc : X.calm = true) : CallR X (.type "list") (fun xs H Q => ∃ z : Str, xs = [.str z] ∧ z.length ≤ sizeLine ∧ ∀ l, H l = none → Q (.ref l) (upd H l (.lst (z.cps.toList.map fun c => V.str ⟨#[c]⟩)))) := by
  intro pins s σ H xs us Q I r h
  obtain ⟨z, rfl, hz, q⟩ := h
  obtain ⟨u, rfl, rx⟩ := vals1 r
  obtain ⟨t, rfl⟩ := rx
  refine call_list_str (I.ok.hd hc) z t (fun h' tk acc c k e it => ?_) hz
  have rv : Vals (z.cps.toList.map fun c => V.str ⟨#[c]⟩) acc.toList := by
    have gen : ∀ (l : List Nat) (us : List Value), us.length = l.length → (∀ (j c : Nat) (u : Value), l[j]? = some c → us[j]? = some u → ∃ t, u = Value.str ⟨#[c]⟩ t) → Vals (l.map fun c => V.str ⟨#[c]⟩) us := by
      intro l
      induction l with
      | nil => intro us hl _; cases us with | nil => exact .nil | cons _ _ => cases hl
      | cons c l ih =>
        intro us hl hu
        cases us with
        | nil => cases hl
        | cons u us =>
          exact .cons (hu 0 c u rfl rfl) (ih us (by simpa using hl) fun j c' u' h1 h2 => hu (j + 1) c' u' (by simpa using h1) (by simpa using h2))
    refine gen _ _ (by simpa using it.1) fun j c' u' h1 h2 => ?_
    obtain ⟨c2, t2, hc2, rfl⟩ := it.2 j u' (by simpa using h2)
    have : z.cps[j]? = some c' := by simpa using h1
    rw [this] at hc2
    cases hc2
    exact ⟨t2, rfl⟩
  exact ⟨.ref s.heap.objs.size, _, I.laid (o := .lst (z.cps.toList.map fun c => V.str ⟨#[c]⟩)) (t' := tk) k (Nat.le_refl _) ⟨by rw [List.length_map, Array.length_toList]; exact hz, acc.toList, c, rv, by rw [Array.toArray_toList]; exact e⟩, rfl, q _ (I.hok.fresh (Nat.le_refl _))⟩
theorem RepAll.of_signs {K : PySem.W.Frag} {M : Addr → Prop} {H : Hp} : ∀ l : List Nat, RepAll K M H (l.map fun c => V.str ⟨#[c]⟩) (l.map fun c => Dt.str ⟨#[c]⟩)
  | [] => .nil
  | c :: l => .cons (.str _) (RepAll.of_signs l)
theorem en_listS {x : Expr} {p : Pos} {PL : List Dt → Prop} (hm : X.mg "list" = none) (h : Ev X F Γ x fun d => ∃ z : Str, d = .str z ∧ z.length ≤ sizeLine ∧ PL (signs z)) (hc : X.calm = true := by rfl) (hg : Gl X "list" := by rfl) (he : starEach [x] X.env = (false, eval x X.env) :: starEach [] X.env := by rfl) : EvN X F Γ (.Call (.Name "list" p) [x] [] pos) PL := fun σ H S =>
  tW.of (pe_callTy (call_listS hc) hg hm (by decide +kernel) (pa_cons pe_w pa_nil he) (by decide) (by decide) he rfl) (h.then S fun v H1 d k S1 r ⟨z, e, hz, p⟩ => by
    subst e
    cases r
    exact ⟨z, rfl, hz, fun l hl => ⟨H1, l, _, _, rfl, k, hl, rfl, RepAll.of_signs _, p⟩⟩)

/-! ### a list of one's own drawn empty: return [xs.pop(e) for ..] -/
theorem RepAll.perm {K : PySem.W.Frag} {M : Addr → Prop} {H : Hp} {xs ys : List V} (h : xs.Perm ys) : ∀ {ds : List Dt}, RepAll K M H xs ds → ∃ es, RepAll K M H ys es ∧ es.Perm ds := by
  induction h with
  | nil => intro ds r; cases r; exact ⟨[], .nil, .nil⟩
  | cons x _ ih =>
    intro ds r
    cases r with
    | cons r t =>
      obtain ⟨es, r', p⟩ := ih t
      exact ⟨_ :: es, .cons r r', p.cons _⟩
  | swap x y l =>
    intro ds r
    cases r with
    | cons r t => cases t with | cons r2 t => exact ⟨_, .cons r2 (.cons r t), .swap _ _ _⟩
  | trans _ _ ih1 ih2 =>
    intro ds r
    obtain ⟨es, r1, p1⟩ := ih1 r
    obtain ⟨fs, r2, p2⟩ := ih2 r1
    exact ⟨fs, r2, p2.trans p1⟩
theorem RepAll.split {K : PySem.W.Frag} {M : Addr → Prop} {H : Hp} : ∀ {xs ys : List V} {ds : List Dt}, RepAll K M H (xs ++ ys) ds → ∃ as bs, ds = as ++ bs ∧ RepAll K M H xs as ∧ RepAll K M H ys bs
  | [], _, ds, r => ⟨[], ds, rfl, .nil, r⟩
  | x :: xs, ys, _, .cons r t => by
    obtain ⟨as, bs, rfl, r1, r2⟩ := RepAll.split (xs := xs) t
    exact ⟨_ :: as, bs, rfl, .cons r r1, r2⟩
theorem ss_retPop {i : Nat} {x : Str} {px ap cp : Pos} {arg tg iter : Expr} {scope : Scope} {own : List (Str × Nat)} {p : Addr} {ds : List Dt} (pt : Pt) (hN : X.N.Nodup) (ok : BlkOk X.N X.env.scope scope own) (hix : ∀ i ∈ pt.ix, i ∈ own.map (·.2)) (hiv : i ∉ own.map (·.2))
    (hg : ∀ (s : Shared) (H : Hp) (C : Addr) (cl : List (Str × Addr)) (fp : List Addr), PG (X.blk s H scope (compEnvC scope cl C X.env) fp) tg (pt.g X.K))
    (hi : Γ[i]? = some (.own p (.lst ds))) (hz : ds.length < 2 ^ 20)
    (hR : RtOk X.K F E P) (hP : ∀ rs : List Dt, rs.Perm ds → P (.lst rs))
    (hit : EvI X F Γ tg iter fun us => us.length = ds.length ∧ ∀ u ∈ us, ∀ Γ', (pt.bind u Γ').isSome = true)
    (harg : ∀ D rem Γ2, rem ≠ [] → rem.length ≤ ds.length → (∃ u, pt.bind u ((wipeG Γ (own.map (·.2))).set i (.own p (.lst rem))) = some Γ2) → EvB X (F.add D) Γ2 scope arg fun d => ∃ r : Int, d = .int r ∧ 0 ≤ r ∧ r < rem.length)
    (hpb : ∀ u Γ' Γ2, pt.bind u Γ' = some Γ2 → Γ2[i]? = Γ'[i]?)
    (hpN : ∀ (s : Shared) (H : Hp) (C : Addr) (cl : List (Str × Addr)) (fp : List Addr), PE (X.blk s H scope (compEnvC scope cl C X.env) fp) (.Name x px) (tVar i))
    (hcl : ∀ (s : Shared) (H : Hp) (C : Addr) (cl : List (Str × Addr)) (fp : List Addr) (to : TE) (t : TA), PE (X.blk s H scope (compEnvC scope cl C X.env) fp) (.Name x px) to → PE (X.blk s H scope (compEnvC scope cl C X.env) fp) arg (tteB X scope arg) →
      PE (X.blk s H scope (compEnvC scope cl C X.env) fp) (.Call (.Attribute (.Name x px) "pop" ap) [arg] [] cp) (tBM X.K "list" rPopAt to (tCons (tteB X scope arg) tNil)))
    (hc : X.calm = true := by rfl) (hs : ∀ x, foldedSetIterable iter X.env x = pure x := by intro _; rfl) : SS X F Γ (.Return (some (.ListComp (.Call (.Attribute (.Name x px) "pop" ap) [arg] [] cp) [⟨tg, iter, [], 0⟩] scope pos)) p2 :: rest) E := fun σ H S =>
  tWS.of (pss_cons (ps_ret (pe_lc (g := gKF X.K (pt.g X.K)) (tt := tYes) (te := tBM X.K "list" rPopAt (tVar i) (tCons (tteB X scope arg) tNil)) hc hN pi_w ok (fun s H C cl fp => pg_kf (hg s H C cl fp)) (fun s H C cl fp => pts_nil)
    (fun s H C cl fp => hcl s H C cl fp _ tNil (hpN s H C cl fp) ⟨fun pins s' σ H' Q I q => q s H C cl fp pins s' I⟩) hs)) pss_w) (hit.then S fun J H1 us k S1 it ⟨hul, hub⟩ => fun D hD => by
    obtain ⟨aσ, oO, nmo', xs, hpx, rxs⟩ := S1.own i p _ hi
    have nM := S1.fresh hD
    have nDp : D ≠ p := fun z => by rw [z, hpx] at hD; cases hD
    have nmo : ¬ Mo F D := fun z => nM (S1.mm D z).1
    have Sw : SR X.K F (wipeG Γ (own.map (·.2))) (wipe σ (own.map (·.2))) H1 := S1.wipe _
    have hxl : xs.length = ds.length := rxs.length
    have wσ : ∀ ws : List Nat, i ∉ ws → (wipe σ ws)[i]? = σ[i]? := fun ws h => wipe_out h
    let W : Nat → Hp → Prop := fun n H' => ExtM (fun a => Mo F a ∨ a = p) H1 H' ∧ (∀ m, F.mo m → MillC (H' m)) ∧ ∃ acc rem, H' D = some (.lst acc) ∧ H' p = some (.lst rem) ∧ (acc ++ rem).Perm xs ∧ acc.length = n
    refine ⟨fun n m H' => m = us.length - n ∧ n ≤ us.length ∧ W n H', ⟨us.length, by simp, Nat.zero_le _, ?_⟩, ?_⟩
    · have k2 := S1.knew (o := .lst []) hD
      exact ⟨k2.1.mono fun a z => .inl z, k2.2, [], xs, upd_same, by rw [upd_ne (Ne.symm nDp)]; exact hpx, .refl _, rfl⟩
    rintro n m H' ⟨rfl, hn, ex, ml, acc, rem, hacc, hrem, pm, hal⟩
    have hML : ∀ a, Mo F a ∨ a = p → F.M a := fun a z => by
      rcases z with z | z
      · exact (S1.mm a z).1
      · rw [z]; exact .inr oO
    have trF : ∀ a, F.M a → H' a ≠ none := fun a z => by
      by_cases hm : F.mo a
      · obtain ⟨x, y, z, e, _⟩ := ml a hm
        rw [e]; simp
      · by_cases hap : a = p
        · rw [hap, hrem]; simp
        · cases q : H1 a with
          | none => exact absurd q (S1.tr a z)
          | some o => rw [ex a o (fun z => z.elim hm hap) q]; simp
    have len2 : acc.length + rem.length = ds.length := by rw [← hxl, ← pm.length_eq, List.length_append]
    obtain ⟨iy, is⟩ := it F.M .refl n H' (ex.mono hML) trF
    by_cases hlt : n < us.length
    · have hd : us[n]? = some us[n] := List.getElem?_eq_getElem hlt
      have hrl : 0 < rem.length := by omega
      refine .inr ⟨(iy _ hd).1, fun H2 => W (n + 1) H2, fun H2 w => ⟨us.length - (n + 1), by omega, rfl, hlt, w⟩, fun y H2 yy kf => ?_⟩
      have hnn := ((iy _ hd).2 y H2 yy).1
      have keep2 : ∀ b o, H' b = some o → H2 b = some o := fun b o q => by
        rcases hnn with e | ⟨T, o', hT, e⟩
        · rw [e]; exact q
        · rw [e, upd_ne (ne_of_none q hT)]; exact q
      have hacc2 := keep2 _ _ hacc
      have hk : X.K.lookup D = none := kf D _ hacc2
      have fr : Fresh X.K F.M (F.add D).M H1 := ⟨fun a z => by rw [addM]; exact .inl z, fun a z => by
        rw [addM] at z
        rcases z with z | z
        · exact .inl z
        · subst z; exact .inr ⟨hD, hk⟩⟩
      have exN : ExtM (F.add D).M H1 H' := ex.mono fun a z => fr.1 a (hML a z)
      have trD : ∀ a, (F.add D).M a → H' a ≠ none := fun a z => by
        rw [addM] at z
        rcases z with z | z
        · exact trF a z
        · rw [z, hacc]; simp
      obtain ⟨_, rx⟩ := ((it (F.add D).M fr n H' exN trD).1 _ hd).2 y H2 yy
      have ml2 : ∀ m, F.mo m → MillC (H2 m) := fun m e => by
        obtain ⟨x, y, z, q, r⟩ := ml m e
        exact ⟨x, y, z, keep2 _ _ q, r⟩
      -- the data of the list, now
      obtain ⟨es, res, pes⟩ := ((rxs.frs fr).ext exN).perm pm.symm
      obtain ⟨as, rems, rfl, ra, rr⟩ := res.split
      -- the state with D
      let Γ0 := wipeG Γ (own.map (·.2))
      have S0 : SR X.K (F.add D) Γ0 (wipe σ (own.map (·.2))) (upd H1 D (.lst [])) := Sw.grow hD hk
      have Su : SR X.K (F.add D) (Γ0.set i .un) (wipe σ (own.map (·.2))) (upd H1 D (.lst [])) := S0.wk ⟨by rw [List.length_set], fun j s q => by
        rcases set_at q with ⟨_, e⟩ | ⟨_, q⟩
        · exact .inl e
        · exact .inr q⟩
      have hi0 : Γ0[i]? = some (.own p (.lst ds)) := by
        have gen : ∀ ws : List Nat, i ∉ ws → (wipeG Γ ws)[i]? = Γ[i]? := fun ws => by
          induction ws with
          | nil => intro _; rfl
          | cons w ws ih =>
            intro h
            show ((wipeG Γ ws).set w .un)[i]? = _
            rw [List.getElem?_set_ne (fun z => h (by rw [z]; exact List.mem_cons_self)), ih fun z => h (List.mem_cons_of_mem _ z)]
        rw [gen _ hiv]; exact hi
      have Sl1 : SR X.K (F.add D) (Γ0.set i .un) (wipe σ (own.map (·.2))) H' := by
        refine Su.later (C := fun a => (Mo F a ∨ a = p) ∨ a = D) (fun a o na q => ?_) (fun a z => ?_) (fun a z => ?_) (fun j q d g z => ?_) ml trD
        · have nD : a ≠ D := fun z => na (.inr z)
          rw [upd_ne nD] at q
          exact ex a o (fun z => na (.inl z)) q
        · rcases z with (z | z) | z
          · exact .inl z
          · exact .inr (.inl (z ▸ oO))
          · exact .inr (.inr z)
        · rw [addM]
          rcases z with z | z
          · exact .inl (hML a z)
          · exact .inr z
        · rcases set_at g with ⟨_, e⟩ | ⟨nj, g⟩
          · cases e
          · obtain ⟨_, o', n', _⟩ := Sw.own j q d g
            rcases z with (z | z) | z
            · exact n' z
            · rw [z] at g; exact nj (Sw.inj j i p d (.lst ds) g hi0)
            · subst z; exact nM (.inr o')
      have S' : SR X.K (F.add D) (Γ0.set i (.own p (.lst rems))) (wipe σ (own.map (·.2))) H' := by
        have q := Sl1.put i (v := .ref p) (s := .own p (.lst rems)) (fun d e => by cases e) (fun e => by cases e) fun q d e => by
          cases e
          refine ⟨rfl, .inl oO, nmo', ⟨rem, hrem, rr⟩, fun j d' g => ?_⟩
          rcases set_at g with ⟨ej, _⟩ | ⟨nj, g⟩
          · exact ej
          · exact Sw.inj j i p d' (.lst ds) g hi0
        rw [List.set_set] at q
        have eσ : (wipe σ (own.map (·.2))).set i (some (.ref p)) = wipe σ (own.map (·.2)) := by
          apply List.ext_getElem?
          intro j
          by_cases ej : i = j
          · subst ej
            have := wσ _ hiv
            rw [aσ] at this
            rw [List.getElem?_set_self (List.getElem?_eq_some_iff.mp this).1, this]
          · rw [List.getElem?_set_ne ej]
        rw [eσ] at q
        exact q
      have kp2 : Kp (F.add D) H' H2 := ⟨fun a o _ q => keep2 a o q, ml2⟩
      have S2 := S'.kp kp2
      obtain ⟨Γ2, hb⟩ := Option.isSome_iff_exists.mp (hub _ (List.getElem_mem hlt) (Γ0.set i (.own p (.lst rems))))
      refine Pt.ok S2 rx hb fun σ3 S3 hw => ⟨(hw _ hix).trans (by
        have : ∀ (vs ws : List Nat), (∀ v ∈ vs, v ∈ ws) → wipe (wipe σ vs) ws = wipe σ ws := fun vs ws => by
          induction vs with
          | nil => intro _; rfl
          | cons v vs ih =>
            intro hv
            show wipe ((wipe σ vs).set v none) ws = _
            rw [wipe_set (hv v List.mem_cons_self)]
            exact ih fun u hu => hv u (List.mem_cons_of_mem _ hu)
        exact this _ _ fun _ z => z), ?_⟩
      unfold tYes
      dsimp only
      rw [if_pos rfl]
      have hΓ2 : Γ2[i]? = some (.own p (.lst rems)) := by
        rw [hpb _ _ _ hb]
        exact List.getElem?_set_self (List.getElem?_eq_some_iff.mp hi0).1
      obtain ⟨aσ3, _, _, ys, hys, rys⟩ := S3.own i p _ hΓ2
      have hrl2 : rems.length = rem.length := rr.length.symm
      refine ⟨.ref p, aσ3, .inl ⟨rfl, _, SqL.of hys⟩, fun s5 H5 C5 cl5 fp5 => (harg D rems Γ2 (fun z => by rw [z] at hrl2; simp at hrl2; omega) (by omega) ⟨_, hb⟩ s5 H5 C5 cl5 fp5).then S3 fun v H4 d k4 S4 r4 ⟨r, ed, h0, h1⟩ => ?_⟩
      subst ed
      cases r4
      have k4' : ExtM (Mo F) H2 H4 := k4.1
      have hp4 : H4 p = some (.lst rem) := k4' p _ nmo' (keep2 _ _ hrem)
      have hD4 : H4 D = some (.lst acc) := k4' D _ nmo hacc2
      have hrn : r.toNat < rem.length := by omega
      refine ⟨p, rem, r, r.toNat, rem[r.toNat], rfl, rfl, hp4, by omega, by omega, PySem.StrLaws.seqIndex_nonneg h0 (by omega), List.getElem?_eq_getElem hrn, ?_⟩
      refine ⟨acc, by rw [upd_ne nDp]; exact hD4, Nat.lt_of_lt_of_le (show acc.length < 2 ^ 20 by omega) (by decide), ?_, fun m e => ?_, acc ++ [rem[r.toNat]], rem.eraseIdx r.toNat, upd_same, by rw [upd_ne (Ne.symm nDp), upd_same], ?_, by rw [List.length_append, List.length_singleton]; omega⟩
      · refine ExtM.chg (ExtM.chg ((ex.trans fun a o na q => keep2 a o q).trans (k4'.mono fun a z => .inl z)) (.inl (.inr rfl))) (.inr hD)
      · rw [upd_ne (fun z => by subst z; exact nmo e), upd_ne (fun z => by subst z; exact nmo' e)]
        exact k4.2 m e
      · refine List.Perm.trans ?_ pm
        rw [List.append_assoc]
        exact List.Perm.append_left _ (by
          have gen : ∀ (l : List V) (j : Nat) (h : j < l.length), (l[j] :: l.eraseIdx j).Perm l := fun l => by
            induction l with
            | nil => intro j h; cases h
            | cons y l ih =>
              intro j h
              cases j with
              | zero => exact .refl _
              | succ j =>
                have hj : j < l.length := by simpa using h
                show (l[j] :: y :: l.eraseIdx j).Perm (y :: l)
                exact (List.Perm.swap _ _ _).trans ((ih j hj).cons y)
          exact gen rem r.toNat hrn)
    · have ei : n = us.length := by omega
      subst ei
      have hre : rem = [] := by
        cases rem with
        | nil => rfl
        | cons _ _ => rw [List.length_cons] at len2; omega
      subst hre
      rw [List.append_nil] at pm
      refine .inl ⟨is (Nat.le_refl _), ?_⟩
      obtain ⟨es, res, pes⟩ := (rxs.ext (ex.mono hML)).perm pm.symm
      have Sf : SR X.K F (Γ.map fun _ => .un) σ H' := by
        have g : ∀ {j : Nat} {s : Sl}, (Γ.map fun _ => Sl.un)[j]? = some s → s = .un := fun {j s} q => by
          rw [List.getElem?_map] at q
          cases z : Γ[j]? with
          | none => rw [z] at q; cases q
          | some x => rw [z] at q; cases q; rfl
        exact ⟨by rw [List.length_map]; exact S1.len, S1.ex.trans (ex.mono fun a z => z.elim (fun q => .inl q) fun q => .inr (q ▸ oO)), trF, fun m e => ⟨(S1.mm m e).1, ml m e⟩, fun j d q => (by cases g q), fun j q d z => (by cases g z), fun j k q d e z _ => (by cases g z), fun j q => (by cases g q)⟩
      exact hR.rt _ σ H' (.ref D) (.lst es) Sf (.lst (fun z => nM (.inl z)) hacc (res.less fun a z => .inl z)) (hP es pes))
end
end DL
/-! DL10: small helpers. -/
namespace DL
open PySem PySem.Spec PyProof.Rows L2
theorem szb {n : Nat} (h : Nat.ble n 1000000 = true) : n ≤ sizeLine := sz_small (Nat.le_of_ble_eq_true h)
theorem cut_from (ds : List Dt) (k : Nat) : cutD ds (some (k : Int)) none = ds.drop k := by
  unfold cutD
  rw [HT.sIx_nat, HT.sIx_none]
  by_cases h : k ≤ ds.length
  · rw [Nat.min_eq_left h]
    exact List.take_of_length_le (by rw [List.length_drop]; omega)
  · rw [Nat.min_eq_right (by omega), List.drop_of_length_le (Nat.le_refl _), List.drop_of_length_le (by omega)]
    simp
theorem cut_to (ds : List Dt) (k : Nat) : cutD ds none (some (k : Int)) = ds.take k := by
  unfold cutD
  rw [HT.sIx_nat, HT.sIx_none, List.drop_zero, Nat.sub_zero]
  by_cases h : k ≤ ds.length
  · rw [Nat.min_eq_left h]
  · rw [Nat.min_eq_right (by omega), List.take_length, List.take_of_length_le (by omega)]
theorem cutS_from (z : Str) (k : Nat) : cutS z (some (k : Int)) none = ⟨(z.cps.toList.drop k).toArray⟩ := by
  unfold cutS
  rw [HT.sIx_nat, HT.sIx_none]
  have hl : z.length = z.cps.toList.length := by simp [Str.length]
  by_cases h : k ≤ z.length
  · rw [Nat.min_eq_left h]
    rw [List.take_of_length_le (by rw [List.length_drop, hl]; omega)]
  · rw [Nat.min_eq_right (by omega), List.drop_of_length_le (by omega), List.drop_of_length_le (by omega)]
    simp
theorem cutS_to (z : Str) (k : Nat) : cutS z none (some (k : Int)) = ⟨(z.cps.toList.take k).toArray⟩ := by
  unfold cutS
  rw [HT.sIx_nat, HT.sIx_none, List.drop_zero, Nat.sub_zero]
  have hl : z.length = z.cps.toList.length := by simp [Str.length]
  by_cases h : k ≤ z.length
  · rw [Nat.min_eq_left h]
  · rw [Nat.min_eq_right (by omega), hl, List.take_length, List.take_of_length_le (by omega)]
theorem wk_nil : Wk [] [] := ⟨rfl, fun i s h => by simp at h⟩
theorem wk_cons {s s' : Sl} {Γ Γ' : List Sl} (h : s' = .un ∨ s = s') (w : Wk Γ Γ') : Wk (s :: Γ) (s' :: Γ') := by
  refine ⟨by rw [List.length_cons, List.length_cons, w.1], fun i u e => ?_⟩
  match i with
  | 0 =>
    simp at e
    subst e
    exact h.imp id fun q => by rw [q]; rfl
  | i + 1 => exact w.2 i u (by simpa using e)
theorem wk_s {s : Sl} {Γ Γ' : List Sl} (w : Wk Γ Γ') : Wk (s :: Γ) (s :: Γ') := wk_cons (.inr rfl) w
theorem wk_u {s : Sl} {Γ Γ' : List Sl} (w : Wk Γ Γ') : Wk (s :: Γ) (.un :: Γ') := wk_cons (.inl rfl) w
section
variable {X : Cx} {F : Fc} {Γ Γ' : List Sl} {e a b c : Expr} {es : List Expr} {pos p2 : Pos} {P : Dt → Prop} {PT : Bool → Prop} {E : Ends} {rest body : List Stmt} {N : List Sl → Prop}
theorem ss_nilW (h : NxOk X.K F E N) (w : Wk Γ Γ') (n : N Γ') : SS X F Γ [] E := ss_wk w (ss_nil h n)
/-- one sign not in a text, as a test, as a value -/
theorem et_notInSign (h : Ev X F Γ a fun da => Ev X F Γ b fun db => ∃ (k : Nat) (z : Str), da = .str ⟨#[k]⟩ ∧ db = .str z ∧ PT (!decide (k ∈ z.cps.toList))) (hm : behindInMarks .NotIn b = false := by rfl) : EvT X F Γ (.Compare a [.NotIn] [b] pos) PT := fun σ H S =>
  tWT.of (pt_cmpR op_notIn_sign pe_w pe_w hm) (h.then S fun x H1 da k1 S1 r1 hb => hb.then S1 fun y H2 db k2 S2 r2 ⟨k, z, e1, e2, p⟩ => by
    subst e1 e2
    cases r1
    cases r2
    exact ⟨k, z, rfl, rfl, _, rfl, k1.trans k2, p⟩)
/-- a < b < c as a test -/
theorem et_chain {op op' : CmpOp} {r r' : R2} (h1 : CmpR X op r) (h2 : CmpR X op' r') (h : Ev X F Γ a fun da => Ev X F Γ b fun db => ∃ k, cmpD op da db = some k ∧ (k = true → Ev X F Γ c fun dc => ∃ k2, cmpD op' db dc = some k2 ∧ PT k2) ∧ (k = false → PT false)) (hm : lastMarks [op, op'] [b, c] = false := by rfl) :
    EvT X F Γ (.Compare a [op, op'] [b, c] pos) PT := fun σ H S =>
  tWT.of (pt_chain h1.ok h2.ok pe_w pe_w pe_w hm) (h.then S fun x H1 da k1 S1 r1 hb => hb.then S1 fun y H2 db k2 S2 r2 ⟨k, e, ht, hf⟩ =>
    h1.dt F Γ σ H2 x y da db (fun d => d = .bl k) _ S2 (S1.rep k2 r1) r2 ⟨k, e, rfl⟩ fun v H3 d k3 r3 ed => by
      subst ed
      cases r3
      refine ⟨k, rfl, ?_⟩
      have S3 := S2.kp k3
      cases k with
      | true =>
        rw [if_pos rfl]
        exact (ht rfl).then S3 fun z H4 dc k4 S4 r4 ⟨q, eq, hq⟩ => h2.dt F Γ σ H4 y z db dc (fun d => d = .bl q) _ S4 (S3.rep k4 (S2.rep k3 r2)) r4 ⟨q, eq, rfl⟩ fun v H5 d k5 r5 ed => by
          subst ed
          cases r5
          exact ⟨q, rfl, (((k1.trans k2).trans k3).trans k4).trans k5, hq⟩
      | false =>
        rw [if_neg Bool.false_ne_true]
        exact ⟨false, rfl, (k1.trans k2).trans k3, hf rfl⟩)
/-- len(xs), xs one's own -/
theorem ev_lenOwn {i : Nat} {x : Str} {p : Addr} {ds : List Dt} {px pp : Pos} (hm : X.mg "len" = none) (hi : Γ[i]? = some (.own p (.lst ds))) (h : P (.int ds.length)) (hN : X.N[i]? = some x := by rfl) (hv : Vis X.env.scope x := by first | exact Or.inl rfl | exact Or.inr (Or.inl rfl) | exact Or.inr (Or.inr rfl))
    (hd : (x == ("__debug__" : Str)) = false := by decide) (hcd : (x == ("__classdict__" : Str)) = false := by decide) (hg : Gl X "len" := by rfl) (he : starEach [.Name x px] X.env = (false, eval (.Name x px) X.env) :: starEach [] X.env := by rfl) : Ev X F Γ (.Call (.Name "len" pp) [.Name x px] [] pos) P := fun σ H S =>
  tW.of (pe_callB call_len hg hm PySem.boot_len (pa_cons (pe_var (i := i) hN hv hd hcd) pa_nil he) (by decide) (by decide) he rfl) (by
    obtain ⟨a, o, n, xs, hx, rx⟩ := S.own i p _ hi
    exact ⟨.ref p, a, .ref p, xs.length, rfl, .inl ⟨xs, SqL.of hx, rfl⟩, S.refl, _, .int _, by rw [rx.length]; exact h⟩)
/-- a for's target: one name -/
theorem pgN {i : Nat} {x : Str} (hN : X.N.Nodup) (hi : X.N[i]? = some x := by rfl) (hx : Loc X.env.scope x := by first | exact Or.inl rfl | exact Or.inr rfl) (hf : X.fn x = true ∨ X.env.scope.names.lookup x = some .local := by first | exact .inl rfl | exact .inr rfl) : PG X (.Name x pos) ((Pt.nm i).g X.K) := pg_name (i := i) hN hi hx hf
theorem pgT2 {i j : Nat} {x y : Str} {px py : Pos} {k : Nat} (hN : X.N.Nodup) (hi : X.N[i]? = some x := by rfl) (hj : X.N[j]? = some y := by rfl) (hx : Loc X.env.scope x := by first | exact Or.inl rfl | exact Or.inr rfl) (hy : Loc X.env.scope y := by first | exact Or.inl rfl | exact Or.inr rfl)
    (hfx : X.fn x = true ∨ X.env.scope.names.lookup x = some .local := by first | exact .inl rfl | exact .inr rfl) (hfy : X.fn y = true ∨ X.env.scope.names.lookup y = some .local := by first | exact .inl rfl | exact .inr rfl) (hc : X.calm = true := by rfl) : PG X (.Tuple [.Name x px, .Name y py] k pos) ((Pt.tp [i, j]).g X.K) :=
  pg_tup hc (pgs_cons (pg_name (i := i) hN hi hx hfx) (pgs_cons (pg_name (i := j) hN hj hy hfy) pgs_nil))
/-- an element of a comprehension by a function of the item; no tests -/
theorem all2_map {g : Dt → Dt} : ∀ {ds : List Dt} {os : List (Option Dt)}, All2 (fun d o => o = some (g d)) ds os → os.filterMap id = ds.map g
  | _, _, .nil => rfl
  | _, _, .cons h t => by rw [h]; simp [all2_map t]
theorem all2_filter {p : Dt → Bool} {g : Dt → Dt} : ∀ {ds : List Dt} {os : List (Option Dt)}, All2 (fun d o => o = if p d = true then some (g d) else none) ds os → os.filterMap id = (ds.filter p).map g
  | _, _, .nil => rfl
  | _, _, .cons (d := d) h t => by
    rw [h]
    by_cases e : p d = true
    · simp [e, all2_filter t]
    · simp [e, all2_filter t]
variable {elt tg iter : Expr} {scope : Scope} {own : List (Str × Nat)}
/-- [g(d) for d in ..] -/
theorem ev_lcMap (pt : Pt) (hN : X.N.Nodup) (ok : BlkOk X.N X.env.scope scope own) (hix : ∀ i ∈ pt.ix, i ∈ own.map (·.2)) (hg : ∀ (s : Shared) (H : Hp) (C : Addr) (cl : List (Str × Addr)) (fp : List Addr), PG (X.blk s H scope (compEnvC scope cl C X.env) fp) tg (pt.g X.K))
    (h : EvI X F Γ tg iter fun ds => ∃ g : Dt → Dt, ds.length ≤ sizeLine ∧ P (.lst (ds.map g)) ∧ ∀ d ∈ ds, ∀ D, ∃ Γ2, pt.bind d (wipeG Γ (own.map (·.2))) = some Γ2 ∧ EvB X (F.add D) Γ2 scope elt fun r => r = g d)
    (hc : X.calm = true := by rfl) (hs : ∀ x, foldedSetIterable iter X.env x = pure x := by intro _; rfl) : Ev X F Γ (.ListComp elt [⟨tg, iter, [], 0⟩] scope pos) P :=
  ev_lc pt hN ok hix hg (fun σ H S => (h σ H S).mono fun J H' ⟨k, ds, it, g, hz, p, hel⟩ => ⟨k, ds, it, fun d o => o = some (g d), fun d hd D => by
    obtain ⟨Γ2, hb, he⟩ := hel d hd D
    exact ⟨Γ2, hb, fun _ s H C cl fp => (he s H C cl fp).mono fun r e => by rw [e], fun z => by cases z⟩, hz, fun os al => by rw [all2_map al]; exact p⟩) hc hs
/-- [g(d) for d in .. if p(d)] -/
theorem ev_lcIf {cnd : Expr} (pt : Pt) (hN : X.N.Nodup) (ok : BlkOk X.N X.env.scope scope own) (hix : ∀ i ∈ pt.ix, i ∈ own.map (·.2)) (hg : ∀ (s : Shared) (H : Hp) (C : Addr) (cl : List (Str × Addr)) (fp : List Addr), PG (X.blk s H scope (compEnvC scope cl C X.env) fp) tg (pt.g X.K))
    (h : EvI X F Γ tg iter fun ds => ∃ (p : Dt → Bool) (g : Dt → Dt), ds.length ≤ sizeLine ∧ P (.lst ((ds.filter p).map g)) ∧ ∀ d ∈ ds, ∀ D, ∃ Γ2, pt.bind d (wipeG Γ (own.map (·.2))) = some Γ2 ∧ EvTB X (F.add D) Γ2 scope [cnd] (fun b => b = p d) ∧ (p d = true → EvB X (F.add D) Γ2 scope elt fun r => r = g d))
    (hc : X.calm = true := by rfl) (hs : ∀ x, foldedSetIterable iter X.env x = pure x := by intro _; rfl) : Ev X F Γ (.ListComp elt [⟨tg, iter, [cnd], 0⟩] scope pos) P :=
  ev_lc pt hN ok hix hg (fun σ H S => (h σ H S).mono fun J H' ⟨k, ds, it, p, g, hz, pp, hel⟩ => ⟨k, ds, it, fun d o => o = if p d = true then some (g d) else none, fun d hd D => by
    obtain ⟨Γ2, hb, ht, he⟩ := hel d hd D
    refine ⟨Γ2, hb, fun s H C cl fp => (ht s H C cl fp).mono fun b eb => ?_⟩
    subst eb
    exact ⟨fun e s H C cl fp => (he e s H C cl fp).mono fun r er => (by dsimp only; rw [er, if_pos e]), fun e => (by dsimp only; rw [if_neg (by rw [e]; simp)])⟩, hz, fun os al => by rw [all2_filter al]; exact pp⟩) hc hs
/-- relational: all items drawn of R -/
theorem ev_lcRel (pt : Pt) (R : Dt → Dt → Prop) (hN : X.N.Nodup) (ok : BlkOk X.N X.env.scope scope own) (hix : ∀ i ∈ pt.ix, i ∈ own.map (·.2)) (hg : ∀ (s : Shared) (H : Hp) (C : Addr) (cl : List (Str × Addr)) (fp : List Addr), PG (X.blk s H scope (compEnvC scope cl C X.env) fp) tg (pt.g X.K))
    (h : EvI X F Γ tg iter fun ds => ds.length ≤ sizeLine ∧ (∀ rs : List Dt, rs.length = ds.length → (∀ (i : Nat) d r, ds[i]? = some d → rs[i]? = some r → R d r) → P (.lst rs)) ∧ ∀ d ∈ ds, ∀ D, ∃ Γ2, pt.bind d (wipeG Γ (own.map (·.2))) = some Γ2 ∧ EvB X (F.add D) Γ2 scope elt fun r => R d r)
    (hc : X.calm = true := by rfl) (hs : ∀ x, foldedSetIterable iter X.env x = pure x := by intro _; rfl) : Ev X F Γ (.ListComp elt [⟨tg, iter, [], 0⟩] scope pos) P :=
  ev_lc pt hN ok hix hg (fun σ H S => (h σ H S).mono fun J H' ⟨k, ds, it, hz, pp, hel⟩ => ⟨k, ds, it, fun d o => ∃ r, o = some r ∧ R d r, fun d hd D => by
    obtain ⟨Γ2, hb, he⟩ := hel d hd D
    exact ⟨Γ2, hb, fun _ s H C cl fp => (he s H C cl fp).mono fun r e => ⟨r, rfl, e⟩, fun z => by cases z⟩, hz, fun os al => by
      have gen : ∀ {ds os}, All2 (fun d o => ∃ r, o = some r ∧ R d r) ds os → (os.filterMap id).length = ds.length ∧ ∀ (i : Nat) d r, ds[i]? = some d → (os.filterMap id)[i]? = some r → R d r := fun {ds os} al => by
        induction al with
        | nil => exact ⟨rfl, fun i d r h => by simp at h⟩
        | cons h t ih =>
          obtain ⟨r, rfl, hr⟩ := h
          refine ⟨by simp [ih.1], fun i d r' h1 h2 => ?_⟩
          match i with
          | 0 => simp at h1 h2; subst h1 h2; exact hr
          | i + 1 => exact ih.2 i d r' (by simpa using h1) (by simpa using h2)
      exact pp _ (gen al).1 (gen al).2⟩) hc hs
end
end DL
namespace DL
open PySem PySem.Spec L2
/-! ### shapes -/
mutual
/-- texts of proper code points, nested no deeper than n -/
def okD : Nat → Dt → Bool
  | _, .non => true | _, .bl _ => true | _, .int _ => true | _, .str x => PyData.strOk x
  | n + 1, .tup ds => okAll n ds | n + 1, .lst ds => okAll n ds | n + 1, .flst ds => okAll n ds
  | _, _ => false
def okAll : Nat → List Dt → Bool
  | _, [] => true
  | n, d :: ds => okD n d && okAll n ds
end
mutual
theorem okD_ok : ∀ (n : Nat) (d : Dt), okD n d = true → d.simple = true ∧ d.py.canLay0 = true ∧ d.py.depth ≤ n
  | n, .non, _ => ⟨by simp [Dt.simple], by simp [Dt.py, PyData.canLay0], by simp [Dt.py, PyData.depth]⟩
  | n, .bl _, _ => ⟨by simp [Dt.simple], by simp [Dt.py, PyData.canLay0], by simp [Dt.py, PyData.depth]⟩
  | n, .int _, _ => ⟨by simp [Dt.simple], by simp [Dt.py, PyData.canLay0], by simp [Dt.py, PyData.depth]⟩
  | n, .str x, h => ⟨by simp [Dt.simple], by simpa [Dt.py, PyData.canLay0, okD] using h, by simp [Dt.py, PyData.depth]⟩
  | n, .ty _, h => by simp [okD] at h
  | n, .cls _, h => by simp [okD] at h
  | 0, .tup ds, h => by simp [okD] at h
  | 0, .lst ds, h => by simp [okD] at h
  | 0, .flst ds, h => by simp [okD] at h
  | n + 1, .tup ds, h => by
    obtain ⟨h1, h2, h3⟩ := okAll_ok n ds (by simpa [okD] using h)
    exact ⟨by simpa [Dt.simple] using h1, by simpa [Dt.py, PyData.canLay0] using h2, by simp only [Dt.py, PyData.depth]; omega⟩
  | n + 1, .lst ds, h => by
    obtain ⟨h1, h2, h3⟩ := okAll_ok n ds (by simpa [okD] using h)
    exact ⟨by simpa [Dt.simple] using h1, by simpa [Dt.py, PyData.canLay0] using h2, by simp only [Dt.py, PyData.depth]; omega⟩
  | n + 1, .flst ds, h => by
    obtain ⟨h1, h2, h3⟩ := okAll_ok n ds (by simpa [okD] using h)
    exact ⟨by simpa [Dt.simple] using h1, by simpa [Dt.py, PyData.canLay0] using h2, by simp only [Dt.py, PyData.depth]; omega⟩
  | n, .dk _ _, h => by simp [okD] at h
  | n, .dt _ _, h => by simp [okD] at h
  | n, .obj _ _ _, h => by simp [okD] at h
theorem okAll_ok : ∀ (n : Nat) (ds : List Dt), okAll n ds = true → simpleAll ds = true ∧ PyData.canLayAll0 (pyAll ds) = true ∧ PyData.depthAll (pyAll ds) ≤ n
  | n, [], _ => ⟨by simp [simpleAll], by simp [pyAll, PyData.canLayAll0], by simp [pyAll, PyData.depthAll]⟩
  | n, d :: ds, h => by
    rw [okAll, Bool.and_eq_true] at h
    obtain ⟨a1, a2, a3⟩ := okD_ok n d h.1
    obtain ⟨b1, b2, b3⟩ := okAll_ok n ds h.2
    exact ⟨by rw [simpleAll, a1, b1]; rfl, by rw [pyAll, PyData.canLayAll0, a2, b2]; rfl, by rw [pyAll, PyData.depthAll]; omega⟩
end
mutual
theorem okD_mn : ∀ (m n : Nat) (d : Dt), m ≤ n → okD m d = true → okD n d = true
  | m, n, .non, _, _ => by cases n <;> simp [okD]
  | m, n, .bl _, _, _ => by cases n <;> simp [okD]
  | m, n, .int _, _, _ => by cases n <;> simp [okD]
  | m, n, .str x, _, h => by cases m <;> cases n <;> simpa [okD] using h
  | m, n, .ty _, _, h => by cases m <;> simp [okD] at h
  | m, n, .cls _, _, h => by cases m <;> simp [okD] at h
  | 0, n, .tup ds, _, h => by simp [okD] at h
  | 0, n, .lst ds, _, h => by simp [okD] at h
  | 0, n, .flst ds, _, h => by simp [okD] at h
  | m + 1, 0, .tup ds, hl, _ => by omega
  | m + 1, 0, .lst ds, hl, _ => by omega
  | m + 1, 0, .flst ds, hl, _ => by omega
  | m + 1, n + 1, .tup ds, hl, h => by simpa [okD] using okAll_mn m n ds (by omega) (by simpa [okD] using h)
  | m + 1, n + 1, .lst ds, hl, h => by simpa [okD] using okAll_mn m n ds (by omega) (by simpa [okD] using h)
  | m + 1, n + 1, .flst ds, hl, h => by simpa [okD] using okAll_mn m n ds (by omega) (by simpa [okD] using h)
  | m, n, .dk _ _, _, h => by cases m <;> simp [okD] at h
  | m, n, .dt _ _, _, h => by cases m <;> simp [okD] at h
  | m, n, .obj _ _ _, _, h => by cases m <;> simp [okD] at h
theorem okAll_mn : ∀ (m n : Nat) (ds : List Dt), m ≤ n → okAll m ds = true → okAll n ds = true
  | m, n, [], _, _ => by simp [okAll]
  | m, n, d :: ds, hl, h => by
    rw [okAll, Bool.and_eq_true] at h
    rw [okAll, okD_mn m n d hl h.1, okAll_mn m n ds hl h.2]
    rfl
end
theorem okD_mono {m n : Nat} {d : Dt} (h : m ≤ n) (q : okD m d = true) : okD n d = true := okD_mn m n d h q
theorem okD_eq {d : Dt} (h : okD 60 d = true) : d.simple = true ∧ SeqAt.shaped d.py = true := by
  obtain ⟨h1, h2, h3⟩ := okD_ok 60 d h
  exact ⟨h1, by unfold SeqAt.shaped; rw [h2, decide_eq_true (by omega)]; rfl⟩
theorem okAll_map {α : Type} {n : Nat} {f : α → Dt} : ∀ {l : List α}, (∀ x ∈ l, okD n (f x) = true) → okAll n (l.map f) = true
  | [], _ => by simp [okAll]
  | x :: l, h => by
    rw [List.map_cons, okAll, h x List.mem_cons_self, okAll_map fun y hy => h y (List.mem_cons_of_mem _ hy)]
    rfl
theorem okAll_of {n : Nat} : ∀ {l : List Dt}, (∀ x ∈ l, okD n x = true) → okAll n l = true := fun {l} h => by
  have := okAll_map (f := id) (l := l) h
  rwa [List.map_id] at this
theorem okD_str {n : Nat} {x : Str} : okD n (.str x) = PyData.strOk x := by cases n <;> simp [okD]
theorem okD_lst {n : Nat} {ds : List Dt} : okD (n + 1) (.lst ds) = okAll n ds := by simp [okD]
theorem okD_tup {n : Nat} {ds : List Dt} : okD (n + 1) (.tup ds) = okAll n ds := by simp [okD]
section
variable {X : Cx} {F : Fc} {Γ : List Sl} {a b : Expr} {pos : Pos} {P : Dt → Prop} {PT : Bool → Prop}
theorem ev_eq (hu : X.A.units + 64 < cLine) (h : Ev X F Γ a fun da => Ev X F Γ b fun db => okD 60 da = true ∧ okD 60 db = true ∧ P (.bl (PyData.eqv da.py db.py))) : Ev X F Γ (.Compare a [.Eq] [b] pos) P :=
  ev_eqD hu (h.mono fun da h2 => h2.mono fun db ⟨h3, h4, p⟩ => ⟨⟨(okD_eq h3).1, (okD_eq h4).1, (okD_eq h3).2, (okD_eq h4).2⟩, p⟩)
theorem ev_ne (hu : X.A.units + 64 < cLine) (h : Ev X F Γ a fun da => Ev X F Γ b fun db => okD 60 da = true ∧ okD 60 db = true ∧ P (.bl (!PyData.eqv da.py db.py))) : Ev X F Γ (.Compare a [.NotEq] [b] pos) P :=
  ev_neD hu (h.mono fun da h2 => h2.mono fun db ⟨h3, h4, p⟩ => ⟨⟨(okD_eq h3).1, (okD_eq h4).1, (okD_eq h3).2, (okD_eq h4).2⟩, p⟩)
theorem et_eq (hu : X.A.units + 64 < cLine) (h : Ev X F Γ a fun da => Ev X F Γ b fun db => okD 60 da = true ∧ okD 60 db = true ∧ PT (PyData.eqv da.py db.py)) : EvT X F Γ (.Compare a [.Eq] [b] pos) PT :=
  et_eqD hu (h.mono fun da h2 => h2.mono fun db ⟨h3, h4, p⟩ => ⟨⟨(okD_eq h3).1, (okD_eq h4).1, (okD_eq h3).2, (okD_eq h4).2⟩, p⟩)
theorem et_ne (hu : X.A.units + 64 < cLine) (h : Ev X F Γ a fun da => Ev X F Γ b fun db => okD 60 da = true ∧ okD 60 db = true ∧ PT (!PyData.eqv da.py db.py)) : EvT X F Γ (.Compare a [.NotEq] [b] pos) PT :=
  et_neD hu (h.mono fun da h2 => h2.mono fun db ⟨h3, h4, p⟩ => ⟨⟨(okD_eq h3).1, (okD_eq h4).1, (okD_eq h3).2, (okD_eq h4).2⟩, p⟩)
end
/-- == on data is equality where no numbers meet truths -/
theorem eqv_nil {xs : List PyData} : PyData.eqv (.list xs) (.list []) = xs.isEmpty := by
  cases xs <;> simp [PyData.eqv, PyData.eqvAll]
theorem pyAll_strs (ss : List Str) : pyAll (ss.map Dt.str) = ss.map PyData.str := by
  induction ss with
  | nil => simp [pyAll]
  | cons s ss ih => simp [pyAll, Dt.py, ih]
theorem eqv_strs : ∀ (xs ys : List Str), PyData.eqvAll (xs.map PyData.str) (ys.map PyData.str) = decide (xs = ys)
  | [], [] => by simp [PyData.eqvAll]
  | [], y :: ys => by simp [PyData.eqvAll]
  | x :: xs, [] => by simp [PyData.eqvAll]
  | x :: xs, y :: ys => by
    rw [List.map_cons, List.map_cons, PyData.eqvAll, eqv_strs xs ys]
    by_cases h1 : x = y <;> by_cases h2 : xs = ys <;> simp [PyData.eqv, h1, h2]
end DL
/-! DL11: small dicts written out, a list unpacked, texts glued. -/
namespace DL
open PySem PySem.Spec L2
def flatD : Dt → Bool
  | .non => true | .bl _ => true | .int _ => true | .str _ => true | _ => false
theorem Rep.flat {K : PySem.W.Frag} {M M' : Addr → Prop} {H H' : Hp} {v : V} {d : Dt} (r : Rep K M H v d) (h : flatD d = true) : Rep K M' H' v d := by
  cases r with
  | non => exact .non
  | bl b => exact .bl b
  | int i => exact .int i
  | str x => exact .str x
  | _ => cases h
section
variable {X : Cx} {F : Fc} {Γ : List Sl} {e a b c : Expr} {es : List Expr} {pos p2 : Pos} {P : Dt → Prop} {PT : Bool → Prop} {E : Ends} {rest body : List Stmt}
theorem ev_dict0 (p : P (.dk [] [])) : Ev X F Γ (.Dict [] [] pos) P := fun σ H S =>
  tW.of pe_dnewK (fun q hq => ⟨S.knew hq, _, .dk (ks := []) (xs := []) (S.fresh hq) (.inl upd_same) rfl .nil, p⟩)
/-- {k: v}, k a text, v flat -/
theorem ev_dict1 {k v : Expr} (h : Ev X F Γ k fun dk => Ev X F Γ v fun dv => ∃ s, dk = .str s ∧ flatD dv = true ∧ P (.dk [.inr s] [dv])) : Ev X F Γ (.Dict [some k] [v] pos) P := fun σ H S =>
  tW.of (pe_disp (pps_cons pe_w pe_w pps_nil) rfl rfl (fun z => by cases z) (Nat.le_of_ble_eq_true rfl)) (fun q hq => by
    have k0 := S.knew (o := .dK []) hq
    have S0 := S.kp k0
    have nM := S.fresh hq
    have nmo : ¬ Mo F q := fun z => nM (S.mm q z).1
    refine h.then S0 fun x H1 dk k1 S1 r1 h2 => h2.then S1 fun y H2 dv k2 S2 r2 ⟨s, e1, hf, p⟩ => ?_
    subst e1
    cases r1
    have hq2 : H2 q = some (.dK []) := k2.1 q _ nmo (k1.1 q _ nmo upd_same)
    refine ⟨hq2, [(.inr s, y)], rfl, Nat.le_of_ble_eq_true rfl, ?_, _, .dk (ks := [.inr s]) (xs := [y]) nM (.inl upd_same) rfl (.cons (r2.flat hf) .nil), p⟩
    refine ⟨((k0.trans (k1.trans k2)).1).chg (.inr hq), fun m e => ?_⟩
    rw [upd_ne (fun z => by subst z; exact nmo e)]
    exact k2.2 m e)
/-- a, b, .. = a list -/
theorem ss_unl {tg : Expr} (is : List Nat) (hg : PG X tg (gUnl X.K is.length (gNames is))) (he : Ev X F Γ e fun d => ∃ ds, d = .lst ds ∧ is.length = ds.length ∧ SS X F (setAll Γ is ds) rest E)
    (hs : swapsWithSole [tg] e pos.line X.env = pure false := by rfl) (hw : swappedStores [tg] e X.env = pure none := by rfl) (h1 : (assignEach [tg] X.env).map (·.2) = [assign tg X.env] := by rfl) : SS X F Γ (.Assign [tg] e pos :: rest) E := fun σ H S =>
  tWS.of (pss_cons (ps_asg pe_w hg hs hw h1) pss_w) (he.then S fun v H1 d k S1 r ⟨ds, ed, hl, h⟩ => by
    subst ed
    cases r with
    | @lst a xs _ n s r => exact ⟨a, xs, rfl, SqL.of s, by rw [r.length]; exact hl.symm, names_ok S1 r hl fun σ' S' _ => h σ' H1 S'⟩)
theorem pgU3 {i j l : Nat} {x y z : Str} {px py pz : Pos} {k : Nat} (hN : X.N.Nodup) (hi : X.N[i]? = some x := by rfl) (hj : X.N[j]? = some y := by rfl) (hl : X.N[l]? = some z := by rfl) (hx : Loc X.env.scope x := by first | exact Or.inl rfl | exact Or.inr rfl) (hy : Loc X.env.scope y := by first | exact Or.inl rfl | exact Or.inr rfl) (hz : Loc X.env.scope z := by first | exact Or.inl rfl | exact Or.inr rfl)
    (hfx : X.fn x = true ∨ X.env.scope.names.lookup x = some .local := by first | exact .inl rfl | exact .inr rfl) (hfy : X.fn y = true ∨ X.env.scope.names.lookup y = some .local := by first | exact .inl rfl | exact .inr rfl) (hfz : X.fn z = true ∨ X.env.scope.names.lookup z = some .local := by first | exact .inl rfl | exact .inr rfl) (hc : X.calm = true := by rfl) :
    PG X (.Tuple [.Name x px, .Name y py, .Name z pz] k pos) (gUnl X.K [i, j, l].length (gNames [i, j, l])) :=
  pg_unl hc (pgs_cons (pg_name (i := i) hN hi hx hfx) (pgs_cons (pg_name (i := j) hN hj hy hfy) (pgs_cons (pg_name (i := l) hN hl hz hfz) pgs_nil)))
end
section
variable {X : Cx} {F : Fc} {Γ : List Sl} {e a b c : Expr} {es : List Expr} {pos p2 : Pos} {P : Dt → Prop} {PT : Bool → Prop} {E : Ends} {rest body : List Stmt}
/-- a, b, c = e1, e2, a new list -/
theorem ss_par3N {i j l : Nat} {x y z : Str} {px py pz pt : Pos} {kt k2 pt2} (hN : X.N.Nodup) (h : Ev X F Γ a fun d1 => Ev X F Γ b fun d2 => EvN X F Γ c fun ds => ∀ p, ¬ F.M p → F.H0 p = none → SS X (F.add p) (((Γ.set i (.dat d1)).set j (.dat d2)).set l (.own p (.lst ds))) rest E) (hi : X.N[i]? = some x := by rfl) (hj : X.N[j]? = some y := by rfl) (hl : X.N[l]? = some z := by rfl) (hij : i ≠ j := by decide) (hil : i ≠ l := by decide) (hjl : j ≠ l := by decide)
    (hx : X.env.scope.names.lookup x = some .local := by rfl) (hy : X.env.scope.names.lookup y = some .local := by rfl) (hz : X.env.scope.names.lookup z = some .local := by rfl) (hc : X.calm = true := by rfl)
    (hw : swappedStores [.Tuple [.Name x px, .Name y py, .Name z pz] kt pt] (.Tuple [a, b, c] k2 pt2) X.env = pure (some [x, y, z]) := by rfl) (hs : swapsWithSole [.Tuple [.Name x px, .Name y py, .Name z pz] kt pt] (.Tuple [a, b, c] k2 pt2) pos.line X.env = pure false := by rfl)
    (s1 : starEach [a, b, c] X.env = (false, eval a X.env) :: starEach [b, c] X.env := by rfl) (s2 : starEach [b, c] X.env = (false, eval b X.env) :: starEach [c] X.env := by rfl) (s3 : starEach [c] X.env = (false, eval c X.env) :: starEach [] X.env := by rfl) :
    SS X F Γ (.Assign [.Tuple [.Name x px, .Name y py, .Name z pz] kt pt] (.Tuple [a, b, c] k2 pt2) pos :: rest) E := fun σ H S =>
  tWS.of (pss_cons (ps_par3 (i := i) (j := j) (l := l) hc hN hi hj hl hij hil hjl hx hy hz (pa_cons pe_w (pa_cons pe_w (pa_cons pe_w pa_nil s3) s2) s1) hw hs) pss_w) (h.then S fun v1 H1 d1 k1 S1 r1 h2 => h2.then S1 fun v2 H2 d2 k2 S2 r2 h3 =>
    tW.kf ((h3 σ H2 S2).mono fun v H' ⟨H3, p, xs, ds, ev, k, hp, eH, r, h4⟩ kf => by
      subst ev eH
      have S3 := S2.kp k
      have hk : X.K.lookup p = none := kf p _ upd_same
      have nM := S3.fresh hp
      have S4 := S3.grow (o := .lst xs) hp hk
      have up : ∀ {v : V} {d : Dt}, Rep X.K F.M H3 v d → Rep X.K (F.add p).M (upd H3 p (.lst xs)) v d := fun r => by rw [addM]; exact (r.more hp hk).ext (.new hp)
      refine ⟨v1, v2, .ref p, rfl, h4 p nM (S3.fresh0 hp) _ _ ?_⟩
      refine SR.put (((S4.set i (up (S2.rep k (S1.rep k2 r1)))).set j (up (S2.rep k r2)))) l (fun d e => by cases e) (fun e => by cases e) fun q d e => ?_
      cases e
      refine ⟨rfl, .inr rfl, fun z => nM (S3.mm p z).1, ⟨xs, upd_same, ?_⟩, fun m d e => ?_⟩
      · rw [addM]; exact (r.more hp hk).ext (.new hp)
      · have no : ∀ (m : Nat) d, Γ[m]? ≠ some (.own p d) := fun m d e => nM (.inr (S3.own m p d e).2.1)
        rcases set_at e with ⟨_, e⟩ | ⟨_, e⟩
        · cases e
        · rcases set_at e with ⟨_, e⟩ | ⟨_, e⟩
          · cases e
          · exact absurd e (no m d)))
end
/-! ### written items -/
def cstD : Expr → Option Dt
  | .Constant (.int i) _ _ => some (.int i)
  | .Constant (.str x) _ _ => some (.str x)
  | .Constant (.bool b) _ _ => some (.bl b)
  | .Constant .none _ _ => some .non
  | _ => none
def cstAll : List Expr → Option (List Dt)
  | [] => some []
  | e :: es => match cstD e, cstAll es with
    | some d, some ds => some (d :: ds)
    | _, _ => none
section
variable {X : Cx} {F : Fc} {Γ : List Sl}
theorem ev_cst {e : Expr} {d : Dt} {P : Dt → Prop} (h : cstD e = some d) (p : P d) : Ev X F Γ e P := by
  unfold cstD at h
  split at h
  · cases h; exact ev_int p
  · cases h; exact ev_str p
  · cases h; exact ev_bl p
  · cases h; exact ev_non p
  · cases h
theorem evl_cst : ∀ {es : List Expr} {ds : List Dt} {PL : List Dt → Prop}, cstAll es = some ds → PL ds → EvL X F Γ es PL
  | [], _, _, h, p => by cases h; exact evl_nil p
  | e :: es, _, PL, h, p => by
    unfold cstAll at h
    split at h
    · rename_i d ds h1 h2
      cases h
      refine evl_cons (ev_cst h1 (evl_cst h2 p)) ?_
      unfold cstD at h1
      split at h1
      · rfl
      · rfl
      · rfl
      · rfl
      · cases h1
    · cases h
end
/-! ### texts by their codes -/
def tx (l : List Nat) : Str := ⟨l.toArray⟩
theorem tx_codes (l : List Nat) : (tx l).cps.toList = l := by simp [tx]
theorem tx_len (l : List Nat) : (tx l).length = l.length := by simp [tx, Str.length]
theorem tx_app (a b : List Nat) : tx a ++ tx b = tx (a ++ b) := by
  show Str.mk _ = Str.mk _
  simp [tx]
theorem tx_of (z : Str) : z = tx z.cps.toList := by cases z; simp [tx]
theorem tx_inj {a b : List Nat} (h : tx a = tx b) : a = b := by rw [← tx_codes a, h, tx_codes]
theorem tx_cut_to (l : List Nat) (k : Nat) : cutS (tx l) none (some (k : Int)) = tx (l.take k) := by rw [cutS_to, tx_codes]; rfl
theorem tx_cut_from (l : List Nat) (k : Nat) : cutS (tx l) (some (k : Int)) none = tx (l.drop k) := by rw [cutS_from, tx_codes]; rfl
theorem tx_ok {l : List Nat} (h : ∀ c ∈ l, c < 0x110000) : PyData.strOk (tx l) = true := by
  unfold PyData.strOk tx
  simpa using h
theorem tx_sz {l : List Nat} (h : l.length ≤ 1000000) : Sz (.str (tx l)) := by
  show (tx l).length ≤ sizeLine
  rw [tx_len]; exact sz_small h
theorem signs_tx (l : List Nat) : signs (tx l) = l.map fun c => .str (tx [c]) := by
  unfold signs; rw [tx_codes]; rfl
theorem mul8 (c : Nat) : Txt.mul (tx [c]) 8 = tx (List.replicate 8 c) := by
  unfold Txt.mul
  rw [if_neg (by decide), if_neg (by simp [tx, Str.length])]
  rfl
theorem mulOk8 (c : Nat) : MulOk (tx [c]) 8 := ⟨by decide, fun _ _ => (by rw [tx_len]; show ¬ ((1 : Nat) : Int) > (2 ^ 63 - 1) / 8; decide), fun _ _ => (by rw [tx_len]; show Builtin.Str.tooLong (1 * Int.toNat 8) = false; decide)⟩
theorem join_tx : ∀ l : List Nat, Txt.join (tx []) (l.map fun c => tx [c]) = tx l := by
  intro l
  show Builtin.Str.glued _ _ = _
  rw [StrLaws.glued_eq_join]
  have gen : ∀ (l : List Nat), Str.join (tx []) (l.map fun c => tx [c]) = tx l := by
    intro l
    induction l with
    | nil => rfl
    | cons c l ih =>
      cases l with
      | nil => rfl
      | cons d l =>
        show tx [c] ++ tx [] ++ Str.join (tx []) ((d :: l).map fun c => tx [c]) = _
        rw [ih, tx_app, tx_app]
        rfl
  exact gen l
end DL
/-! DL12a: a set of texts is filled. -/
namespace DL
open PySem PySem.Spec L2 PySem.Froz
/-- the set at a holds the texts l -/
def TxSet (P : Program) (w : World) (h : Heap) (a : Addr) (l : List Str) : Prop :=
  (∃ D : SD, h.get? a = some (sObj "set" D) ∧ TxOk P w D l ∧ Ris D.2.2.place.toList ∧ (w.params.followText "set-order" = true ∨ D.2.2.led = true)) ∧ l.Nodup
theorem ris_tail {ep : Nat} {es : Array (Int × Value)} {t : SetTable} {d : Bool} (r : Ris t.place.toList) : Ris (tailTx ep es t d).2.2.place.toList := by
  unfold tailTx
  split
  · exact relayAll_ris _ _ _
  · exact r
theorem led_tail {ep : Nat} {es : Array (Int × Value)} {t : SetTable} {d : Bool} (r : t.led = true) : (tailTx ep es t d).2.2.led = true := by
  unfold tailTx
  split
  · exact (relayAll_led _ _ _).trans r
  · exact r
theorem ris_addTx {c : Int} {v : Value} {D : SD} (r : Ris D.2.2.place.toList) : Ris (addTx c v D).2.2.place.toList := by
  have h1 := layNew_ris D.2.2 D.1 c v r
  unfold addTx
  refine ris_tail ?_
  split <;> exact h1
theorem led_addTx {c : Int} {v : Value} {D : SD} (e : D.2.2.led = true) : (addTx c v D).2.2.led = true := by
  have h1 := (layNew_led D.2.2 D.1 c v).trans e
  unfold addTx
  refine led_tail ?_
  split <;> exact h1
section
variable {P : Program} {w : World} {A : Around} {E : Value → Shared → Prop} {s : Shared} {a : Addr} {l : List Str}
theorem TxSet.keep {h h' : Heap} (T : TxSet P w h a l) (k : ∀ o, h.get? a = some o → h'.get? a = some o) : TxSet P w h' a l := by
  obtain ⟨⟨D, ho, r⟩, nd⟩ := T
  exact ⟨⟨D, k _ ho, r⟩, nd⟩
/-- a text that is in the set already -/
theorem add_old {D : SD} {k : Str} {u : Tok} {Q : Bool → Shared → Prop} (ho : s.heap.get? a = some (sObj "set" D)) (T : TxOk P w D l) (hk : k ∈ l) (hb : l.length < scanBound) (q : Q false s) :
    wpAny (model P w) A (setAddHashed a (.str k u) (hashStr w k)) Q E s := by
  obtain ⟨es, ep, t⟩ := D
  have small : es.size < scanBound := by have z : es.size = l.length := T.sz; omega
  have T1 : ElemsOf (strKind P w) es.toList := T.el
  unfold setAddHashed setAddHashedIn
  refine wpAny_holding (wpAny_bind (wpAny_setState_of (o := sObj "set" (es, ep, t)) ho rfl T.fit ?_)); dsimp only
  rw [byScan_of (x := Value.str k u) rfl small T1]; simp only [↓reduceIte]
  unfold setAddByScan
  refine wpAny_bind (wpAny_bind (wpAny_rule (wpAny_bind (wpAny_setScan_of (knd := strKind P w) (k := k) (is_str k u) (o := sObj "set" (es, ep, t)) ho rfl T.fit T1 ?_))))
  cases found : List.findIdx? (fun e => (strKind P w).is k e.2) es.toList with
  | some j => dsimp only; exact wpAny_pure (wpAny_pure q)
  | none =>
    obtain ⟨e, he, ke⟩ := (T.mem k).1 hk
    have no := List.findIdx?_eq_none_iff.1 found e he
    rw [ke] at no; cases no
/-- any text -/
theorem add_any {k : Str} {u : Tok} {Q : Bool → Shared → Prop} (T : TxSet P w s.heap a l) (hb : l.length + 1 < scanBound)
    (q : ∀ (b : Bool) (h' : Heap) (l' : List Str), Heap.SameBut a s.heap h' → TxSet P w h' a l' → (∀ y, y ∈ l' ↔ y ∈ l ∨ y = k) → l'.length ≤ l.length + 1 → Q b { s with heap := h' }) :
    wpAny (model P w) A (setAddHashed a (.str k u) (hashStr w k)) Q E s := by
  have T0 := T
  obtain ⟨⟨D, ho, ok, rs, ld⟩, nd⟩ := T
  by_cases hk : k ∈ l
  · refine add_old ho ok hk (by omega) ?_
    exact q false s.heap l (Heap.SameBut.refl a s.heap) T0 (fun y => ⟨.inl, fun z => z.elim id fun e => e ▸ hk⟩) (Nat.le_succ _)
  · refine add_x ho ok hk hb ?_
    refine q true _ (k :: l) (Heap.SameBut.update s.heap a _) ⟨⟨_, get_upd _ ho rfl, add_ok u ok, ris_addTx rs, ld.imp id led_addTx⟩, List.nodup_cons.2 ⟨hk, nd⟩⟩ (fun y => ?_) (Nat.le_refl _)
    rw [List.mem_cons]; exact Or.comm
/-- the loop of set(texts) -/
theorem fill_texts {I : Addr} {fp wr : List Addr} {G : Array GenState → Array GenState → Prop} {n : Nat} {Pv : Nat → Value → Prop} {St : Nat → Shared → Prop} {R : Result → Shared → Prop} (W : WalksS P w A.in1 I fp wr G n Pv St) (at' : Addr) (off : at' ∉ fp) (ss : List Str) (hn : n = ss.length) (hb : ss.length + 1 < scanBound)
    (hv : ∀ i v, Pv i v → ∃ k t, ss[i]? = some k ∧ v = .str k t) : ∀ (m i : Nat) (s : Shared), n - i = m → i ≤ n → St i s → (∃ l, l.length ≤ i ∧ TxSet P w s.heap at' l ∧ ∀ y, y ∈ l ↔ y ∈ ss.take i) →
      (∀ s' l, Moved (at' :: wr) G s s' → l.length ≤ n → TxSet P w s'.heap at' l → (∀ y, y ∈ l ↔ y ∈ ss) → R (.ok (.ret .none)) s') → codeAny (model P w) A (.builtin "set.update.loop" ⟨[.ref at', .ref I], []⟩) R s := by
  have off2 : at' ∉ wr := fun z => off (W.sub _ z)
  have more : ∀ b ∈ wr, b ∈ at' :: wr := fun b z => List.mem_cons_of_mem _ z
  intro m
  induction m with
  | zero =>
    rintro i s hm hi st ⟨l, ll, T, ml⟩ fin
    obtain rfl : i = n := by omega
    refine codeAny_builtin PyProof.Rows.F.entry_set_update_loop ?_; rw [Around.under_plainId PyProof.Rows.F.plain_set_update_loop _]
    show wpAny _ A.in1 (pyNext (.ref I) >>= _) _ _ s
    refine wpAny_bind (W.done s _ _ st fun s' mv => ?_)
    show wpAny _ A.in1 (ret Value.none) _ _ s'
    rw [List.take_of_length_le (by omega)] at ml
    exact wpAny_pure (fin s' l (mv.mono more) ll (T.keep fun o z => mv.heap at' o off2 z) ml)
  | succ m ih =>
    rintro i s hm hi st ⟨l, ll, T, ml⟩ fin
    have lt : i < n := by omega
    refine codeAny_builtin PyProof.Rows.F.entry_set_update_loop ?_; rw [Around.under_plainId PyProof.Rows.F.plain_set_update_loop _]
    show wpAny _ A.in1 (pyNext (.ref I) >>= _) _ _ s
    refine wpAny_bind (W.item i s _ _ lt st fun v s' pv st' mv => ?_)
    obtain ⟨z, t, hz, rfl⟩ := hv i v pv
    have T' := T.keep (h' := s'.heap) fun o z => mv.heap at' o off2 z
    show wpAny _ A.in1 (holding [Value.str z t] (setAdd at' (.str z t)) >>= _) _ _ s'
    refine wpAny_bind (wpAny_holding ?_)
    unfold setAdd
    refine wpAny_holding (wpAny_bind ((strKind P w).pyHash (k := z) (is_str z t) ?_))
    refine add_any (s := { s' with toks := s'.toks + 1 }) T' (by omega) fun b h' l' sb T2 ml2 ll2 => ?_
    refine wpAny_pure ⟨plainId_quiet PyProof.Rows.F.plain_set_update_loop _, ih (i + 1) _ (by omega) lt (W.frame _ s' _ _ st' (Nat.le_succ _) fun b hb o e => ?_) ⟨l', by omega, T2, fun y => ?_⟩ fun s2 l2 mv2 ll3 T3 ml3 => ?_⟩
    · rw [sb.2 b (fun e2 : b = at' => off (e2 ▸ hb))]; exact e
    · rw [ml2 y, ml y, List.take_add_one, hz]; simp [List.mem_append]
    · refine fin s2 l2 (Moved.trans W.gtrans ((mv.mono more).then_heap (Nat.le_succ _) fun b o hb e => ?_) mv2) ll3 T3 ml3
      rw [sb.2 b (fun e2 : b = at' => hb (e2 ▸ List.mem_cons_self))]; exact e
end
end DL
/-! DL12b: set(t), t a tuple of texts. -/
namespace DL
open PySem PySem.Spec L2 PySem.Froz PyProof.Rows
abbrev new0 (w : World) : Obj := { cls := .type "set", dict := none, data := .set #[] 0 (.fresh 0 0 (!w.params.followText "set-order")) }
theorem txSet_new {P : Program} {w : World} {h : Heap} {a : Addr} (ho : h.get? a = some (new0 w)) : TxSet P w h a [] := by
  refine ⟨⟨(#[], 0, .fresh 0 0 (!w.params.followText "set-order")), ho, TxOk.nil rfl, List.Pairwise.nil, ?_⟩, List.nodup_nil⟩
  show _ ∨ (!w.params.followText "set-order") = true
  cases w.params.followText "set-order"
  · exact .inr rfl
  · exact .inl rfl
section
variable {P : Program} {w : World} {A : Around} {E : Value → Shared → Prop} {s : Shared}
theorem set_of_texts {l : Addr} {items : Array Value} (ss : List Str) {Q : Value → Shared → Prop} (hh : A.handled = none) (tup : s.heap.IsTuple l items) (its : StrsAre items.toList ss) (few : ss.length + 1 < scanBound)
    (q : ∀ (h' : Heap) (tk : Nat) (ks : List Str), TxSet P w h' s.heap.objs.size ks → ks.length ≤ ss.length → (∀ y, y ∈ ks ↔ y ∈ ss) → (∀ b o, s.heap.get? b = some o → h'.get? b = some o) → Q (.ref s.heap.objs.size) { s with heap := h', toks := tk }) :
    wpAny (model P w) A (call (.type "set") [.ref l]) Q E s := by
  have size : items.size = ss.length := by rw [← Array.length_toList]; exact StrsAre.len_eq its
  obtain ⟨c, tl, hmro⟩ := F.called_set.mro
  have f1 := F.called_set.made; have f2 := F.called_set.sub; have f3 := F.called_set.notType; have f4 := F.called_set.canCreate; have f5 := F.typeCall_set_1 (.ref l)
  refine wpAny_call (codeAny_of_tree ?_); show wpAny _ _ (callAny (.type "set") _) _ _ _
  refine wpAny_pure ⟨Code.quiet_builtin _ (by decide +kernel), codeAny_builtin F.entry_type_call ?_⟩; rw [Around.under_plain (weight_type_call_type "set" [.ref l] []) rfl]
  repeat (any_goals (first | assumption | wp_step))
  refine codeAny_mono (code_set_led1 (.ref l) (E := E) (Q₁ := fun v s1 => v = .ref s.heap.objs.size ∧ s1 = { s with heap := s.heap.push (new0 w) }) ⟨rfl, rfl⟩) fun r s1 hr => ?_
  cases r with
  | error e => exact hr
  | ok fl =>
    cases fl with
    | ret v =>
      obtain ⟨rfl, rfl⟩ := hr
      have at0 : (s.heap.push (new0 w)).get? s.heap.objs.size = some (new0 w) := Heap.get?_push_size _ rfl
      have ty0 : Shared.TypeIs { s with heap := s.heap.push (new0 w) } (.ref s.heap.objs.size) "set" := ⟨_, at0, rfl⟩
      have f6 := F.called_set.init.lookup; have f7 := F.called_set.init.bind (.ref s.heap.objs.size)
      repeat (any_goals (first | assumption | wp_step))
      refine codeAny_mono (codeAny_call_builtin (R := wants (fun r s2 => r = .none ∧ ∃ h' tk ks, s2 = { s with heap := h', toks := tk } ∧ TxSet P w h' s.heap.objs.size ks ∧ ks.length ≤ ss.length ∧ (∀ y, y ∈ ks ↔ y ∈ ss) ∧ (∀ b o, s.heap.get? b = some o → h'.get? b = some o)) E) F.called_set.init.plain F.entry_set_init (check_set_init_1 ty0 ?_)) fun r2 s2 hr2 => ?_
      · obtain ⟨⟨oc, od, odata, osl⟩, ob, ec, nn, ed⟩ := tup
        dsimp only at ec ed
        subst ec ed
        have ob' : (s.heap.push (new0 w)).get? l = some { cls := .type "tuple", dict := od, data := .seq items nn, slots := osl } := Heap.get?_push_of_some _ ob
        have g1 := F.sub_tuple_set; have g2 := F.sub_tuple_frozenset; have g3 : (Value.type "tuple" == Value.type "dict") = false := by decide
        have tup1 : (s.heap.push (new0 w)).IsTuple l items := ⟨_, ob', rfl, nn, rfl⟩
        unfold Builtin.«set.__init__» noKeywords Builtin.Frozenset.updateFrom
        generalize hPI : pyIter = PI; wp_walk; subst hPI
        refine wpAny_pyIter_tuple tup1 (wpAny_bind (wpAny_runValue ?_))
        have low : l < s.heap.objs.size := Heap.lt_size ob
        have sz1 : (s.heap.push (new0 w)).objs.size = s.heap.objs.size + 1 := Heap.size_push ..
        have ne1 : l ≠ (s.heap.push (new0 w)).objs.size := by rw [sz1]; exact Nat.ne_of_lt (Nat.lt_succ_of_lt low)
        have off : s.heap.objs.size ∉ [(s.heap.push (new0 w)).objs.size, l] := by
          rw [sz1]; intro z; rcases List.mem_cons.1 z with z | z
          · exact absurd z (Nat.ne_of_lt (Nat.lt_succ_self _))
          · exact absurd (List.mem_singleton.1 z).symm (Nat.ne_of_lt low)
        have hv : ∀ (i : Nat) (v : Value), items[i]? = some v → ∃ k t, ss[i]? = some k ∧ v = .str k t := fun i v hi => by
          have lt : i < ss.length := by rw [← size]; exact (Array.getElem?_eq_some_iff.1 hi).1
          obtain ⟨t, e⟩ := _root_.SS.strs_at its i v (by rw [Array.getElem?_toList]; exact hi)
          refine ⟨ss[i], t, List.getElem?_eq_getElem lt, ?_⟩
          rw [e, List.getD_eq_getElem?_getD, List.getElem?_eq_getElem lt]; rfl
        have hh3 : A.in1.in1.in1.handled = none := by simp [hh]
        refine fill_texts ((Walks.tuple hh3 _ l ne1 items).toS) s.heap.objs.size off ss size few hv (items.size - 0) 0 _ (by omega) (Nat.zero_le _) ⟨⟨_, Heap.get?_push_size _ rfl, rfl, rfl⟩, (tup1.push _)⟩ ⟨[], Nat.le_refl 0, txSet_new (Heap.get?_push_of_some _ at0), fun y => by simp⟩ ?fin
        case fin =>
          intro s' ks mv lk T mk
          obtain ⟨h', g', d', tk', os'⟩ := s'
          obtain rfl : g' = s.gens := mv.gens
          obtain rfl : d' = s.drawn := mv.drawn
          obtain rfl : os' = s.os := mv.os
          show wpAny _ _ _ _ _ _
          refine wpAny_pure ?_; show wpAny _ _ (ret Value.none) _ _ _
          refine wpAny_pure ⟨rfl, h', tk', ks, rfl, T, by omega, mk, fun b o e => ?_⟩
          have lb : b < s.heap.objs.size := Heap.lt_size e
          refine mv.heap b o (fun z => ?_) (Heap.get?_push_of_some _ (Heap.get?_push_of_some _ e))
          rcases List.mem_cons.1 z with z | z
          · exact absurd z (Nat.ne_of_lt lb)
          · have z := List.mem_singleton.1 z; rw [sz1] at z; exact absurd z (Nat.ne_of_lt (Nat.lt_succ_of_lt lb))
      · cases r2 with
        | error e => exact hr2
        | ok f =>
          cases f with
          | ret r =>
            obtain ⟨rfl, h', tk, ks, rfl, T, lk, mk, kp⟩ := hr2
            repeat (any_goals (first | assumption | wp_step))
            exact q _ _ _ T lk mk kp
          | _ => exact hr2.elim
    | _ => exact hr.elim
end
end DL
/-! DL12: sorted(set(texts)). -/
namespace DL
open PySem PySem.Spec L2 PySem.Froz PyProof.Rows
theorem lst_tri : ∀ a b : List Nat, ¬ b < a → a ≠ b → a < b
  | [], [], _, n => absurd rfl n
  | [], y :: b, _, _ => List.nil_lt_cons y b
  | x :: a, [], h, _ => absurd (List.nil_lt_cons x a) h
  | x :: a, y :: b, h, n => by
    rw [List.cons_lt_cons_iff] at h ⊢
    rcases Nat.lt_trichotomy x y with z | z | z
    · exact .inl z
    · subst z
      exact .inr ⟨rfl, lst_tri a b (fun q => h (.inr ⟨rfl, q⟩)) fun q => n (by rw [q])⟩
    · exact absurd (.inl z) h
theorem ltS_tri {a b : Str} (h : ltS b a = false) (n : a ≠ b) : ltS a b = true :=
  decide_eq_true (lst_tri _ _ (of_decide_eq_false h) fun q => n (by cases a; cases b; congr 1; exact Array.toList_inj.1 q))
theorem ltS_tr {a b c : Str} (h1 : ltS a b = true) (h2 : ltS b c = true) : ltS a c = true := decide_eq_true (List.lt_trans (of_decide_eq_true h1) (of_decide_eq_true h2))
theorem rising_pw : ∀ (p : Str) (l : List Str), risingS p l = true → (p :: l).Nodup → (p :: l).Pairwise (fun a b => ltS a b = true)
  | p, [], _, _ => .cons (fun _ z => by cases z) .nil
  | p, x :: r, h, nd => by
    have h' : (!ltCps x.cps.toList p.cps.toList && risingS x r) = true := h
    rw [Bool.and_eq_true, ltCps_eq] at h'
    obtain ⟨n1, n2⟩ := List.nodup_cons.1 nd
    have ih := rising_pw x r h'.2 n2
    have px : ltS p x = true := ltS_tri (by simpa [ltS] using h'.1) fun e => n1 (e ▸ List.mem_cons_self)
    refine .cons (fun y hy => ?_) ih
    rcases List.mem_cons.1 hy with rfl | hy
    · exact px
    · exact ltS_tr px (List.rel_of_pairwise_cons ih hy)
theorem sorted_pw {l : List Str} (h : sortedS l = true) (nd : l.Nodup) : l.Pairwise (fun a b => ltS a b = true) := by
  cases l with
  | nil => exact .nil
  | cons x r => exact rising_pw x r h nd
theorem cover_perm {α : Type} [DecidableEq α] : ∀ (ks L : List α), ks.Nodup → (∀ k ∈ ks, k ∈ L) → L.length ≤ ks.length → L.Perm ks
  | [], L, _, _, h => by
    cases L with
    | nil => exact .nil
    | cons x l => simp at h
  | k :: ks, L, nd, hc, h => by
    obtain ⟨n1, n2⟩ := List.nodup_cons.1 nd
    have hk := hc k List.mem_cons_self
    refine (List.perm_cons_erase hk).trans (List.Perm.cons k (cover_perm ks (L.erase k) n2 (fun y hy => ?_) ?_))
    · exact (List.mem_erase_of_ne (fun e : y = k => n1 (e ▸ hy))).2 (hc y (List.mem_cons_of_mem _ hy))
    · rw [List.length_erase_of_mem hk]; simp only [List.length_cons] at h; omega
def txOf : Value → Str
  | .str x _ => x
  | _ => Str.empty
theorem strs_are : ∀ (l : List Value), (∀ v ∈ l, ∃ k t, v = Value.str k t) → StrsAre l (l.map txOf)
  | [], _ => .nil
  | v :: l, h => by
    obtain ⟨k, t, rfl⟩ := h v List.mem_cons_self
    exact .cons k t (strs_are l fun u hu => h u (List.mem_cons_of_mem _ hu))
section
variable {P : Program} {w : World} {A : Around} {E : Value → Shared → Prop} {s : Shared} {a : Addr} {ks : List Str}
theorem sorted_texts {Q : Value → Shared → Prop} (T : TxSet P w s.heap a ks) (hh : A.handled = none) (few : ks.length < 64)
    (q : ∀ s' p (out : Array Value) (c : Nat) (ys : List Str), (∀ b o, s.heap.get? b = some o → s'.heap.get? b = some o) → s'.gens = s.gens → s'.os = s.os → s.heap.objs.size ≤ p → s'.heap.get? p = some (seqObj "list" out c) → StrsAre out.toList ys → ys.Pairwise (fun a b => ltS a b = true) → ys.Perm ks → Q (.ref p) s') :
    wpAny (model P w) A (call (.builtin "sorted") [.ref a]) Q E s := by
  obtain ⟨⟨⟨es, ep, t⟩, ho, ok, rs, ld⟩, nd⟩ := T
  have sz : es.size = ks.length := ok.sz
  have el : ElemsOf (PySem.strKind P w) es.toList := ok.el
  have bd : es.size < scanBound := by rw [sz]; unfold scanBound; omega
  have shp : ∀ v ∈ es.toList.map (·.2), ∃ k t, v = Value.str k t := fun v hv => by
    obtain ⟨e, he, rfl⟩ := List.mem_map.1 hv
    obtain ⟨⟨k, hk, _⟩, _⟩ := el e he
    obtain ⟨t, e2⟩ := Value.isStrOf_shape hk
    exact ⟨k, t, e2⟩
  have pk : ((es.toList.map (·.2)).map txOf).Perm ks := cover_perm _ _ nd (fun k hk => by
    obtain ⟨e, he, hi⟩ := (ok.mem k).1 hk
    obtain ⟨t, e2⟩ := Value.isStrOf_shape hi
    exact List.mem_map.2 ⟨e.2, List.mem_map.2 ⟨e, he, rfl⟩, by rw [e2]; rfl⟩) (by rw [List.length_map, List.length_map, Array.length_toList, sz]; exact Nat.le_refl _)
  refine Calls.call_function_entry kind_sorted plain_sorted entry_sorted (args_sorted1 _) ?_
  unfold Builtin.«sorted»; refine wpAny_bind (m := checkCount "sorted" 1 1 _) (wpAny_pure ?_)
  refine wpAny_bind (collect_set (A := A.in1) hh ⟨_, ho, rfl, rfl⟩ ok.fit bd rs ld fun s1 vs k1 hz g1 o1 pm => ?_)
  have hvl : vs.length = ks.length := by rw [pm.length_eq, List.length_map, Array.length_toList, sz]
  have hS : StrsAre vs (vs.map txOf) := strs_are vs fun v hv => shp v (pm.mem_iff.1 hv)
  refine wpAny_bind (wpAny_newList ?_ (by rw [hvl, sizeLine_eq]; omega))
  have hoL : (s1.heap.push (seqObj "list" vs.toArray 0)).get? s1.heap.objs.size = some (seqObj "list" vs.toArray 0) := Heap.get?_push_size _ rfl
  refine wpAny_bind (wpAny_holding (wpAny_call_entry slot_list_sort ⟨_, hoL, rfl⟩ entry_list_sort (list_sort_treeK strKind_oneLt hoL hS.keysOf (fun v₁ v₂ rest e => keyKind_strs (by rw [← e]; exact hS)) (by rw [hvl]; exact few) fun st' a1 a2 => ⟨_, rfl, ?_⟩) (args_list_sort _)))
  obtain ⟨ys, b1, b2, b3⟩ := sorted_out_str hS a1 a2
  obtain ⟨c, hc⟩ := sortedHeap_at (vs := vs) (out := (arrOf st').map (·.2)) hoL
  have py : ys.Perm ks := b2.trans ((pm.map txOf).trans pk)
  refine wpAny_pure ⟨_, rfl, q _ s1.heap.objs.size _ c ys (fun b u e => ?_) g1 o1 hz hc b1 (sorted_pw b3 (py.nodup_iff.2 nd)) py⟩
  have e1 := k1 b u e
  have lt := Heap.lt_size e1
  show (sortedHeap (s1.heap.push (seqObj "list" vs.toArray 0)) s1.heap.objs.size vs _).get? b = some u
  rw [sortedHeap_old (Nat.ne_of_lt lt) (by rw [size_push']; exact Nat.lt_succ_of_lt lt)]; exact Heap.get?_push_of_some _ e1
end
def TxO (P : Program) (w : World) (a : Addr) (ks : List Str) : HO := .ext fun h => TxSet P w h a ks
theorem txO_new {P : Program} {w : World} {H : Hp} {h : Heap} {a : Addr} {ks : List Str} (T : TxSet P w h a ks) : ObjOk P w H h a (TxO P w a ks) := by
  have ⟨⟨D, ho, _⟩, _⟩ := T
  exact ⟨T, ⟨_, ho⟩, fun h1 h2 p k => TxSet.keep p k⟩
section
variable {X : Cx}
def rSetTx (K : PySem.W.Frag) (P : Program) (w : World) : List V → Hp → VK → Prop := fun xs H Q => ∃ (l : Addr) (ss : List Str), xs = [V.ref l] ∧ SqT K H l (ss.map V.str) ∧ ss.length < 64 ∧ ∀ a ks, H a = none → ks.length < 64 → (∀ y, y ∈ ks ↔ y ∈ ss) → Q (.ref a) (upd H a (TxO P w a ks))
theorem cr_setTx (hc : X.calm = true) : CallR X (.type "set") (rSetTx X.K X.prog X.w) := by
  intro pins s σ H xs us Q I r h
  obtain ⟨l, ss, rfl, hl, few, q⟩ := h
  rw [Vals.ref1 r]
  obtain ⟨its, rv, tp, _⟩ := I.tuple hl
  have hn : H s.heap.objs.size = none := I.hok.fresh (Nat.le_refl _)
  refine set_of_texts (P := X.prog) (w := X.w) ss (I.ok.hd hc) tp (by simpa using rv.strs) (by unfold scanBound; omega) fun h' tk ks T lk mk k => ?_
  exact ⟨.ref s.heap.objs.size, upd H s.heap.objs.size (TxO X.prog X.w s.heap.objs.size ks), I.laid (t' := tk) k (Nat.le_refl _) (txO_new T), rfl, q _ ks hn (by omega) mk⟩
def rSortTx (P : Program) (w : World) : List V → Hp → VK → Prop := fun vs H Q => ∃ (a : Addr) (ks : List Str), vs = [V.ref a] ∧ H a = some (TxO P w a ks) ∧ ks.length < 64 ∧ ∀ (ys : List Str) (p : Addr), ys.Pairwise (fun a b => ltS a b = true) → ys.Perm ks → H p = none → Q (.ref p) (upd H p (.lst (ys.map V.str)))
theorem cr_sortTx (hc : X.calm = true) : CallR X (.builtin "sorted") (rSortTx X.prog X.w) := by
  intro pins s σ H vs us Q I r h
  obtain ⟨a, ks, rfl, ha, few, q⟩ := h
  have T : TxSet X.prog X.w s.heap a ks := (I.hok a _ ha).1
  rw [Vals.ref1 r]
  refine sorted_texts T (I.ok.hd hc) few fun s' p out c ys k g o hp hg hi pw py => ?_
  have len : (ys.map V.str).length ≤ sizeLine := by rw [List.length_map, py.length_eq, sizeLine_eq]; omega
  have hn : H p = none := I.hok.fresh hp
  have J : Inv X pins σ (upd H p (.lst (ys.map V.str))) { s with heap := s'.heap, gens := s'.gens, drawn := s'.drawn, toks := s'.toks } := I.call (ch := []) (Un.laid k hp hn) (I.hok.laid k hp ⟨len, out.toList, c, vals_of_strs hi, hg⟩) (by rw [g]; exact I.bare) (fun _ z => nomatch z)
  have e : s' = { s with heap := s'.heap, gens := s'.gens, drawn := s'.drawn, toks := s'.toks } := by cases s'; cases s; cases o; rfl
  rw [e]; exact ⟨.ref p, _, J, rfl, q ys p pw py hn⟩
end
section
variable {X : Cx} {F : Fc} {Γ : List Sl} {pos : Pos} {P : Dt → Prop}
theorem ev_sortedSet {x : Expr} {p ps q : Pos} (hm : X.mg "sorted" = none) (hs : X.mg "set" = none) (h : Ev X F Γ x fun d => ∃ ss : List Str, d = .tup (ss.map Dt.str) ∧ ss.length < 64 ∧ ∀ ys : List Str, ys.Pairwise (fun a b => ltS a b = true) → (∀ y, y ∈ ys ↔ y ∈ ss) → P (.lst (ys.map .str)))
    (hc : X.calm = true := by rfl) (hg : Gl X "sorted" := by rfl) (hg2 : Gl X "set" := by rfl) (he : starEach [x] X.env = (false, eval x X.env) :: starEach [] X.env := by rfl) (he2 : starEach [.Call (.Name "set" q) [x] [] ps] X.env = (false, eval (.Call (.Name "set" q) [x] [] ps) X.env) :: starEach [] X.env := by rfl) :
    Ev X F Γ (.Call (.Name "sorted" p) [.Call (.Name "set" q) [x] [] ps] [] pos) P := fun σ H S =>
  tW.of (pe_callB (cr_sortTx hc) hg hm (by decide +kernel) (pa_cons (pe_callTy (cr_setTx hc) hg2 hs (by decide +kernel) (pa_cons pe_w pa_nil he) (by decide) (by decide) he) pa_nil he2) (by decide) (by decide) he2)
    (h.then S fun v H1 d k S1 r1 ⟨ss, ed, few, g⟩ => by
      subst ed
      cases r1 with
      | @tup a xs _ n sq r =>
        have ex := r.strs
        subst ex
        refine ⟨a, ss, rfl, sq, few, fun b ks hb lk mk => ⟨b, ks, rfl, upd_same, lk, fun ys l pw py hl => ?_⟩⟩
        have k1 := S1.knew (o := TxO X.prog X.w b ks) hb
        have S2 := S1.kp k1
        have k2 := S2.knew (o := .lst (ys.map V.str)) hl
        exact ⟨k.trans (k1.trans k2), _, .lst (S2.fresh hl) upd_same (RepAll.of_strs ys), g ys pw fun y => (py.mem_iff).trans (mk y)⟩)
end
end DL
/-! DL13: an if that goes on behind, one range item. -/
namespace DL
open PySem PySem.Spec L2
section
variable {X : Cx} {F : Fc} {Γ : List Sl} {pos : Pos} {P : Dt → Prop} {E : Ends} {rest th el : List Stmt} {cnd : Expr}
theorem ss_ifJ (I : List Sl → Prop) (h : EvT X F Γ cnd fun k => ∀ E', (∀ P, RtOk X.K F E P → RtOk X.K F E' P) → NxOk X.K F E' I → (k = true → SS X F Γ th E') ∧ (k = false → SS X F Γ el E')) (hr : ∀ Γ', I Γ' → SS X F Γ' rest E) : SS X F Γ (.If cnd th el pos :: rest) E :=
  ss_if (h.mono fun k h => h _ (fun P r => r.nx) ⟨fun Γ σ H S i => hr Γ i σ H S⟩)
end
theorem range_at {n k : Nat} {d : Dt} (h : (rangeD 0 n)[k]? = some d) : k < n ∧ d = .int (k : Int) := by
  have hl : k < (rangeD 0 n).length := (List.getElem?_eq_some_iff.1 h).1
  rw [rangeD, List.length_map, List.length_range] at hl
  refine ⟨hl, ?_⟩
  rw [rangeD, List.getElem?_map, List.getElem?_range hl] at h
  simp at h
  exact h.symm
/-! ### written values, nested -/
def litAllF (f : Expr → Option Dt) : List Expr → Option (List Dt)
  | [] => some []
  | e :: es => match f e, litAllF f es with
    | some d, some ds => some (d :: ds)
    | _, _ => none
def litD : Nat → Expr → Option Dt
  | _, .Constant (.int i) _ _ => some (.int i)
  | _, .Constant (.str x) _ _ => some (.str x)
  | _, .Constant (.bool b) _ _ => some (.bl b)
  | _, .Constant .none _ _ => some .non
  | n + 1, .Tuple es _ _ => match litAllF (litD n) es with
    | some ds => if Nat.ble ds.length 1000 then some (.tup ds) else none
    | none => none
  | n + 1, .List es _ => match litAllF (litD n) es with
    | some ds => if Nat.ble ds.length 1000 then some (.lst ds) else none
    | none => none
  | _, .Dict [] [] _ => some (.dk [] [])
  | n + 1, .Dict [some (.Constant (.str k) _ _)] [v] _ => match litD n v with
    | some d => if flatD d then some (.dk [.inr k] [d]) else none
    | none => none
  | _, _ => none
section
variable {X : Cx} {F : Fc} {Γ : List Sl}
theorem evl_litF {f : Expr → Option Dt} (hf : ∀ (e : Expr) (d : Dt) (P : Dt → Prop), f e = some d → P d → Ev X F Γ e P) (hs : ∀ (e : Expr) (d : Dt) (es : List Expr), f e = some d → starEach (e :: es) X.env = (false, eval e X.env) :: starEach es X.env) : ∀ {es : List Expr} {ds : List Dt} {PL : List Dt → Prop}, litAllF f es = some ds → PL ds → EvL X F Γ es PL
  | [], _, _, h, p => by cases h; exact evl_nil p
  | e :: es, _, PL, h, p => by
    unfold litAllF at h
    split at h
    · rename_i d ds h1 h2
      cases h
      exact evl_cons (hf e d _ h1 (evl_litF hf hs h2 p)) (hs e d es h1)
    · cases h
theorem lit_star {n : Nat} {e : Expr} {d : Dt} {es : List Expr} (h : litD n e = some d) : starEach (e :: es) X.env = (false, eval e X.env) :: starEach es X.env := by
  unfold litD at h
  split at h <;> first | rfl | (cases h; done)
theorem ev_lit : ∀ (n : Nat) (e : Expr) (d : Dt) (P : Dt → Prop), litD n e = some d → P d → Ev X F Γ e P := by
  intro n
  induction n with
  | zero =>
    intro e d P h p
    unfold litD at h
    split at h
    · cases h; exact ev_int p
    · cases h; exact ev_str p
    · cases h; exact ev_bl p
    · cases h; exact ev_non p
    · rename_i q; cases q
    · rename_i q; cases q
    · cases h; exact ev_dict0 p
    · rename_i q; cases q
    · cases h
  | succ n ih =>
    have ihl : ∀ {es : List Expr} {ds : List Dt} {PL : List Dt → Prop}, litAllF (litD n) es = some ds → PL ds → EvL X F Γ es PL := fun h p => evl_litF ih (fun e d es h => lit_star h) h p
    intro e d P h p
    unfold litD at h
    split at h
    · cases h; exact ev_int p
    · cases h; exact ev_str p
    · cases h; exact ev_bl p
    · cases h; exact ev_non p
    · rename_i q; cases q
      split at h
      · rename_i ds hd
        split at h
        · rename_i hl
          cases h
          exact ev_tup (ihl hd ⟨sz_small (Nat.le_trans (Nat.le_of_ble_eq_true hl) (by decide)), p⟩)
        · cases h
      · cases h
    · rename_i q; cases q
      split at h
      · rename_i ds hd
        split at h
        · rename_i hl
          cases h
          exact ev_lst (ihl hd ⟨sz_small (Nat.le_trans (Nat.le_of_ble_eq_true hl) (by decide)), p⟩)
        · cases h
      · cases h
    · cases h; exact ev_dict0 p
    · rename_i q; cases q
      split at h
      · rename_i d hd
        split at h
        · rename_i hl
          cases h
          exact ev_dict1 (ev_str (ih _ _ _ hd ⟨_, rfl, hl, p⟩))
        · cases h
      · cases h
    · cases h
theorem evl_lit (n : Nat) {es : List Expr} {ds : List Dt} {PL : List Dt → Prop} (h : litAllF (litD n) es = some ds) (p : PL ds) : EvL X F Γ es PL := evl_litF (ev_lit n) (fun e d es h => lit_star h) h p
end
end DL
namespace K00
open PySem PySem.Spec L2 DL
/-! ### the text -/
def topS (i : Nat) : Stmt := PySem.Challenge.pw_whichwalks_k00_integers_names_and_sets.main.body.getD i (.Pass ⟨0, 0, 0, 0⟩)
abbrev s_is_integer : Stmt := topS 3
abbrev n_is_integer : List Str := ["value"]
theorem sc_is_integer : FnScope n_is_integer ["value"] (defScope s_is_integer) := ⟨rfl, rfl, rfl, by decide +kernel, rfl, by decide +kernel, by decide +kernel⟩
abbrev s_is_name : Stmt := topS 4
abbrev n_is_name : List Str := ["value", "letter"]
theorem sc_is_name : FnScope n_is_name ["value"] (defScope s_is_name) := ⟨rfl, rfl, rfl, by decide +kernel, rfl, by decide +kernel, by decide +kernel⟩
abbrev s_are_ascending : Stmt := topS 5
abbrev n_are_ascending : List Str := ["values", "one", "other"]
theorem sc_are_ascending : FnScope n_are_ascending ["values"] (defScope s_are_ascending) := ⟨rfl, rfl, rfl, by decide +kernel, rfl, by decide +kernel, by decide +kernel⟩
abbrev s_is_set : Stmt := topS 6
abbrev n_is_set : List Str := ["value", "name"]
theorem sc_is_set : FnScope n_is_set ["value"] (defScope s_is_set) := ⟨rfl, rfl, rfl, by decide +kernel, rfl, by decide +kernel, by decide +kernel⟩
abbrev s_l_mill : Stmt := topS 8
abbrev n_l_mill : List Str := ["_law_script", "_law_at", "_law_cell", "_law_great", "_law_mixed"]
theorem sc_l_mill : FnScope n_l_mill ["_law_script", "_law_at"] (defScope s_l_mill) := ⟨rfl, rfl, rfl, by decide +kernel, rfl, by decide +kernel, by decide +kernel⟩
abbrev s_l_grain : Stmt := topS 9
abbrev n_l_grain : List Str := ["_law_mill_here", "_law_total", "_law_one", "_law_two", "_law_found"]
theorem sc_l_grain : FnScope n_l_grain ["_law_mill_here", "_law_total"] (defScope s_l_grain) := ⟨rfl, rfl, rfl, by decide +kernel, rfl, by decide +kernel, by decide +kernel⟩
abbrev s_l_one_of : Stmt := topS 10
abbrev n_l_one_of : List Str := ["_law_mill_here", "_law_items"]
theorem sc_l_one_of : FnScope n_l_one_of ["_law_mill_here", "_law_items"] (defScope s_l_one_of) := ⟨rfl, rfl, rfl, by decide +kernel, rfl, by decide +kernel, by decide +kernel⟩
abbrev s_l_order : Stmt := topS 11
abbrev n_l_order : List Str := ["_law_mill_here", "_law_items", "_law_waits", "_law_turn"]
theorem sc_l_order : FnScope n_l_order ["_law_mill_here", "_law_items"] (defScope s_l_order) := ⟨rfl, rfl, rfl, by decide +kernel, rfl, by decide +kernel, by decide +kernel⟩
abbrev s_l_letter : Stmt := topS 12
abbrev n_l_letter : List Str := ["_law_mill_here"]
theorem sc_l_letter : FnScope n_l_letter ["_law_mill_here"] (defScope s_l_letter) := ⟨rfl, rfl, rfl, by decide +kernel, rfl, by decide +kernel, by decide +kernel⟩
abbrev s_l_many_names : Stmt := topS 13
abbrev n_l_many_names : List Str := ["_law_mill_here", "_law_much", "_law_body", "_law_lot", "_law_found", "_law_spot", "_law_sign", "_law_at"]
theorem sc_l_many_names : FnScope n_l_many_names ["_law_mill_here", "_law_much"] (defScope s_l_many_names) := ⟨rfl, rfl, rfl, by decide +kernel, rfl, by decide +kernel, by decide +kernel⟩
abbrev s_l_spelled : Stmt := topS 14
abbrev n_l_spelled : List Str := ["_law_value", "_law_sign"]
theorem sc_l_spelled : FnScope n_l_spelled ["_law_value"] (defScope s_l_spelled) := ⟨rfl, rfl, rfl, by decide +kernel, rfl, by decide +kernel, by decide +kernel⟩
abbrev s_l_is_set : Stmt := topS 15
abbrev n_l_is_set : List Str := ["_law_value", "_law_name"]
theorem sc_l_is_set : FnScope n_l_is_set ["_law_value"] (defScope s_l_is_set) := ⟨rfl, rfl, rfl, by decide +kernel, rfl, by decide +kernel, by decide +kernel⟩
abbrev s_l_is_short : Stmt := topS 16
abbrev n_l_is_short : List Str := ["_law_value"]
theorem sc_l_is_short : FnScope n_l_is_short ["_law_value"] (defScope s_l_is_short) := ⟨rfl, rfl, rfl, by decide +kernel, rfl, by decide +kernel, by decide +kernel⟩
abbrev s_l_bounds : Stmt := topS 17
abbrev n_l_bounds : List Str := ["_law_mill_here", "_law_cell", "_law_great", "_law_near"]
theorem sc_l_bounds : FnScope n_l_bounds ["_law_mill_here", "_law_cell"] (defScope s_l_bounds) := ⟨rfl, rfl, rfl, by decide +kernel, rfl, by decide +kernel, by decide +kernel⟩
abbrev s_l_texts : Stmt := topS 18
abbrev n_l_texts : List Str := ["_law_mill_here", "_law_found", "_law_turn", "_law_text", "_law_spot", "_law_odd", "_law_at"]
theorem sc_l_texts : FnScope n_l_texts ["_law_mill_here"] (defScope s_l_texts) := ⟨rfl, rfl, rfl, by decide +kernel, rfl, by decide +kernel, by decide +kernel⟩
abbrev s_l_tuples : Stmt := topS 19
abbrev n_l_tuples : List Str := ["_law_mill_here", "_law_one", "_law_two", "_law_last", "_law_found", "_law_odd"]
theorem sc_l_tuples : FnScope n_l_tuples ["_law_mill_here"] (defScope s_l_tuples) := ⟨rfl, rfl, rfl, by decide +kernel, rfl, by decide +kernel, by decide +kernel⟩
abbrev s_l_cell_right : Stmt := topS 20
abbrev n_l_cell_right : List Str := ["_law_script", "_law_at", "_law_mill_here", "_law_cell", "_law_values", "_law_turn", "_law_value", "_law_found"]
theorem sc_l_cell_right : FnScope n_l_cell_right ["_law_script", "_law_at"] (defScope s_l_cell_right) := ⟨rfl, rfl, rfl, by decide +kernel, rfl, by decide +kernel, by decide +kernel⟩
abbrev s_law : Stmt := topS 21
abbrev n_law : List Str := ["_law_script", "_law_at"]
theorem sc_law : FnScope n_law ["_law_script"] (defScope s_law) := ⟨rfl, rfl, rfl, by decide +kernel, rfl, by decide +kernel, by decide +kernel⟩
/-- what the top has left -/
structure Txt (K : PySem.W.Frag) (mg : Str → Option Value) : Prop where
  b_abs : mg "abs" = none
  b_all : mg "all" = none
  b_bool : mg "bool" = none
  b_int : mg "int" = none
  b_isinstance : mg "isinstance" = none
  b_len : mg "len" = none
  b_list : mg "list" = none
  b_max : mg "max" = none
  b_min : mg "min" = none
  b_range : mg "range" = none
  b_repr : mg "repr" = none
  b_set : mg "set" = none
  b_sorted : mg "sorted" = none
  b_str : mg "str" = none
  b_tuple : mg "tuple" = none
  b_zip : mg "zip" = none
  c_MAX_LETTERS : ∃ t, mg "MAX_LETTERS" = some (.int 8 t)
  c_GREATEST : ∃ t, mg "GREATEST" = some (.int (10 ^ 60 - 1) t)
  d_is_integer : DefAt K mg "is_integer" s_is_integer ["value"]
  d_is_name : DefAt K mg "is_name" s_is_name ["value"]
  d_are_ascending : DefAt K mg "are_ascending" s_are_ascending ["values"]
  d_is_set : DefAt K mg "is_set" s_is_set ["value"]
  d_l_mill : DefAt K mg "_law_mill" s_l_mill ["_law_script", "_law_at"]
  d_l_grain : DefAt K mg "_law_grain" s_l_grain ["_law_mill_here", "_law_total"]
  d_l_one_of : DefAt K mg "_law_one_of" s_l_one_of ["_law_mill_here", "_law_items"]
  d_l_order : DefAt K mg "_law_order" s_l_order ["_law_mill_here", "_law_items"]
  d_l_letter : DefAt K mg "_law_letter" s_l_letter ["_law_mill_here"]
  d_l_many_names : DefAt K mg "_law_many_names" s_l_many_names ["_law_mill_here", "_law_much"]
  d_l_spelled : DefAt K mg "_law_spelled" s_l_spelled ["_law_value"]
  d_l_is_set : DefAt K mg "_law_is_set" s_l_is_set ["_law_value"]
  d_l_is_short : DefAt K mg "_law_is_short" s_l_is_short ["_law_value"]
  d_l_bounds : DefAt K mg "_law_bounds" s_l_bounds ["_law_mill_here", "_law_cell"]
  d_l_texts : DefAt K mg "_law_texts" s_l_texts ["_law_mill_here"]
  d_l_tuples : DefAt K mg "_law_tuples" s_l_tuples ["_law_mill_here"]
  d_l_cell_right : DefAt K mg "_law_cell_right" s_l_cell_right ["_law_script", "_law_at"]
-- slots
-- is_integer: 0 value
-- is_name: 0 value, 1 letter
-- are_ascending: 0 values, 1 one, 2 other
-- is_set: 0 value, 1 name
-- _law_mill: 0 _law_script, 1 _law_at, 2 _law_cell, 3 _law_great, 4 _law_mixed
-- _law_grain: 0 _law_mill_here, 1 _law_total, 2 _law_one, 3 _law_two, 4 _law_found
-- _law_one_of: 0 _law_mill_here, 1 _law_items
-- _law_order: 0 _law_mill_here, 1 _law_items, 2 _law_waits, 3 _law_turn
-- _law_letter: 0 _law_mill_here
-- _law_many_names: 0 _law_mill_here, 1 _law_much, 2 _law_body, 3 _law_lot, 4 _law_found, 5 _law_spot, 6 _law_sign, 7 _law_at
-- _law_spelled: 0 _law_value, 1 _law_sign
-- _law_is_set: 0 _law_value, 1 _law_name
-- _law_is_short: 0 _law_value
-- _law_bounds: 0 _law_mill_here, 1 _law_cell, 2 _law_great, 3 _law_near
-- _law_texts: 0 _law_mill_here, 1 _law_found, 2 _law_turn, 3 _law_text, 4 _law_spot, 5 _law_odd, 6 _law_at
-- _law_tuples: 0 _law_mill_here, 1 _law_one, 2 _law_two, 3 _law_last, 4 _law_found, 5 _law_odd
-- _law_cell_right: 0 _law_script, 1 _law_at, 2 _law_mill_here, 3 _law_cell, 4 _law_values, 5 _law_turn, 6 _law_value, 7 _law_found
-- law: 0 _law_script, 1 _law_at

end K00
namespace K00
open PySem PySem.Spec L2 DL
section
variable {P : Program} {w : World} {K : PySem.W.Frag} {mg : Str → Option Value} {base : Heap}
/-! ### names.py -/
def isIntD : Dt → Bool
  | .int i => decide (-(10 ^ 60 - 1) ≤ i) && decide (i ≤ 10 ^ 60 - 1)
  | _ => false
def rPred (f : Dt → Bool) (Pre : Dt → Prop) : List Sl → (Dt → Prop) → Prop := fun as Pd => ∃ d, as = [.dat d] ∧ Pre d ∧ Pd (.bl (f d))
theorem rPred_len {f : Dt → Bool} {Pre : Dt → Prop} : ∀ as Pd, rPred f Pre as Pd → as.length = 1 := by
  rintro as Pd ⟨d, rfl, _⟩; rfl
/-- values of the kinds that are met here -/
def Kind (d : Dt) : Prop := plainT d = true ∧ Sz d ∧ ∀ ds, d = .tup ds → ds.length ≤ 1000 ∧ ∀ x ∈ ds, plainT x = true ∧ Sz x
theorem dn_is_integer (T : Txt K mg) : DFn P w K mg base 1 "is_integer" ["value"] (rPred isIntD (fun d => plainT d = true)) := by
  refine fn_at T.d_is_integer sc_is_integer rPred_len fun f cdv A outer s H hr F as Pd E hR hO hRt hNx => ?_
  obtain ⟨d, rfl, hp, hP⟩ := hR
  show SS _ F [.dat d] _ E
  obtain ⟨tg, hG⟩ := T.c_GREATEST
  refine ss_ret hRt (ev_and (ev_isi (n := "int") T.b_isinstance T.b_int (ev_var (i := 0) rfl ⟨hp, _, rfl, fun h => ?_, fun h => ?_⟩)))
  · refine ev_and (ev_not (ev_isi (n := "bool") T.b_isinstance T.b_bool (ev_var (i := 0) rfl ⟨hp, _, rfl, _, rfl, fun h2 => ?_, fun h2 => ?_⟩)))
    · have hi : ∃ i, d = .int i := by
        cases d <;> first | (simp [isB] at h h2; done) | exact ⟨_, rfl⟩
      obtain ⟨i, rfl⟩ := hi
      refine ev_one (ev_chain c_le c_le (ev_neg (ev_gint hG ⟨_, rfl, ev_var (i := 0) rfl ⟨_, rfl, fun h3 => ?_, fun h3 => ?_⟩⟩)))
      · refine ev_gint hG ⟨_, rfl, ?_⟩
        rw [isIntD, h3, Bool.true_and] at hP
        exact hP
      · rw [isIntD, h3, Bool.false_and] at hP
        exact hP
    · have : isIntD d = false := by
        cases d <;> first | rfl | (simp [isB] at h h2; done)
      rw [this] at hP
      exact hP
  · have : isIntD d = false := by
      cases d <;> first | rfl | (simp [isB] at h; done)
    rw [this] at hP
    exact hP
def small (c : Nat) : Bool := decide (97 ≤ c) && decide (c ≤ 122)
def isNameS (z : Str) : Bool := (decide (1 ≤ z.length) && decide (z.length ≤ 8)) && z.cps.toList.all small
def isNameD : Dt → Bool
  | .str z => isNameS z
  | _ => false
theorem lt1 (a b : Nat) : ltS ⟨#[a]⟩ ⟨#[b]⟩ = decide (a < b) := by
  unfold ltS
  by_cases h : a < b
  · rw [decide_eq_true h]; exact decide_eq_true (by simp [List.cons_lt_cons_iff, h])
  · rw [decide_eq_false h]; exact decide_eq_false (by simp [List.cons_lt_cons_iff]; omega)
theorem cps_a : ("a" : Str) = ⟨#[97]⟩ := by decide +kernel
theorem cps_z : ("z" : Str) = ⟨#[122]⟩ := by decide +kernel
theorem dn_is_name (T : Txt K mg) : DFn P w K mg base 1 "is_name" ["value"] (rPred isNameD (fun d => plainT d = true ∧ Sz d)) := by
  refine fn_at T.d_is_name sc_is_name rPred_len fun f cdv A outer s H hr F as Pd E hR hO hRt hNx => ?_
  obtain ⟨d, rfl, ⟨hp, hz⟩, hP⟩ := hR
  show SS _ F [.dat d, .un] _ E
  obtain ⟨tg, hG⟩ := T.c_MAX_LETTERS
  refine ss_if (EvW.t (ew_or (et_not (et_val (ev_isi (n := "str") T.b_isinstance T.b_str (ev_var (i := 0) rfl ⟨hp, _, rfl, fun h => ⟨fun _ => ?_, fun h => ?_⟩, fun h => ?_⟩))))))
  · have e : isNameD d = false := by cases d <;> first | rfl | (simp [isB] at h; done)
    rw [e] at hP
    exact ss_ret hRt.nx (ev_bl hP)
  · cases h
  · have hs : ∃ z, d = .str z := by cases d <;> first | exact ⟨_, rfl⟩ | (simp [isB] at h; done)
    obtain ⟨z, rfl⟩ := hs
    have no : (decide (1 ≤ z.length) && decide (z.length ≤ 8)) = false → Pd (.bl false) := fun h => by
      have e : isNameD (.str z) = false := by simp [isNameD, isNameS, h]
      rw [e] at hP
      exact hP
    refine ew_or1 (et_not (et_chain c_le c_le (ev_int (ev_len T.b_len (ev_var (i := 0) rfl ⟨_, rfl, hz, _, rfl, fun h1 => ?_, fun h1 => ?_⟩)))))
    · refine ev_gint hG ⟨_, rfl, fun h2 => ?_, fun h2 => ?_⟩
      · refine ss_ret hRt.nx (ev_bl (no ?_))
        have : ¬ z.length ≤ 8 := by simp at h2; omega
        simp [this]
      · refine ss_nil nx_rest (ss_ret hRt ?_)
        have h3 : 1 ≤ z.length ∧ z.length ≤ 8 := by simp at h1 h2; omega
        refine ev_all T.b_all (ev_lcMap (own := [("letter", 1)]) (.nm 1) sc_is_name.nd (blkOk_by (N := n_is_name) (sc := defScope s_is_name) (by decide +kernel)) (by decide) (fun _ _ _ _ _ => pgN sc_is_name.nd)
          (ei_str (ev_var (i := 0) rfl ⟨z, rfl, fun d => match d with | .str y => .bl (y.cps.toList.all small) | d => d, ?_, ⟨z.cps.toList.map small, ?_, ?_⟩, ?_⟩)))
        · rw [DL.signs, List.length_map]; exact Nat.le_trans (by simpa [Str.length] using h3.2) (szb (n := 8) rfl)
        · rw [DL.signs, List.map_map, List.map_map]
          congr 1
          apply List.map_congr_left
          intro c _
          simp
        · have e : isNameD (.str z) = (z.cps.toList.map small).all id := by
            rw [isNameD, isNameS, decide_eq_true h3.1, decide_eq_true h3.2, List.all_map]; rfl
          rw [e] at hP
          exact hP
        · intro d hd D
          obtain ⟨c, _, rfl⟩ := List.mem_map.1 hd
          refine ⟨_, rfl, fun s5 H5 C5 cl5 fp5 => ?_⟩
          refine ev_chain c_le c_le (ev_str (ev_var (i := 1) rfl ⟨_, rfl, fun h4 => ev_str ⟨_, rfl, ?_⟩, fun h4 => ?_⟩))
          · rw [cps_a, lt1] at h4
            rw [cps_z, lt1]
            have : 97 ≤ c := by simpa using h4
            have e : (!decide (122 < c)) = decide (c ≤ 122) := by
              by_cases h : c ≤ 122
              · rw [decide_eq_true h, decide_eq_false (by omega)]; rfl
              · rw [decide_eq_false h, decide_eq_true (by omega)]; rfl
            simp [small, this, e]
          · rw [cps_a, lt1] at h4
            have : ¬ 97 ≤ c := by simpa using h4
            simp [small, this]
    · refine ⟨fun h2 => ?_, fun h2 => by cases h2⟩
      refine ss_ret hRt.nx (ev_bl (no ?_))
      have : ¬ 1 ≤ z.length := by simp at h1; omega
      simp [this]
theorem dn_are_ascending (T : Txt K mg) : DFn P w K mg base 1 "are_ascending" ["values"] (fun as Pd => ∃ ss : List Str, as = [.dat (.tup (ss.map Dt.str))] ∧ ss.length ≤ 1000000 ∧ Pd (.bl ((List.zipWith ltS ss (ss.drop 1)).all id))) := by
  refine fn_at T.d_are_ascending sc_are_ascending (by rintro as Pd ⟨d, rfl, _⟩; rfl) fun f cdv A outer s H hr F as Pd E hR hO hRt hNx => ?_
  obtain ⟨ss, rfl, hl, hP⟩ := hR
  show SS _ F [.dat (.tup (ss.map Dt.str)), .un, .un] _ E
  refine ss_ret hRt (ev_all T.b_all (ev_lcMap (own := [("one", 1), ("other", 2)]) (.tp [1, 2]) sc_are_ascending.nd (blkOk_by (N := n_are_ascending) (sc := defScope s_are_ascending) (by decide +kernel)) (by decide) (fun _ _ _ _ _ => pgT2 sc_are_ascending.nd)
    (ei_zipT T.b_zip (ev_var (i := 0) rfl (ev_slice (ev_var (i := 0) rfl (ev_int ⟨_, rfl, _, rfl, sz_small (by rw [List.length_map]; exact hl), _, _, rfl, rfl,
      (fun d => match d with | .tup [.str a, .str b] => .bl (ltS a b) | d => d), ?_, ⟨List.zipWith ltS ss (ss.drop 1), ?_, hP⟩, ?_⟩)))))))
  · rw [zipD_len, List.length_map]; exact Nat.le_trans (Nat.min_le_left _ _) (sz_small hl)
  · rw [show ((1 : Int)) = ((1 : Nat) : Int) from rfl, cut_from, ← List.map_drop]
    have gen : ∀ (xs ys : List Str), (zipD (xs.map Dt.str) (ys.map Dt.str)).map (fun d => match d with | .tup [.str a, .str b] => Dt.bl (ltS a b) | d => d) = (List.zipWith ltS xs ys).map Dt.bl := fun xs => by
      induction xs with
      | nil => intro ys; simp [zipD]
      | cons x xs ih =>
        intro ys
        cases ys with
        | nil => simp [zipD]
        | cons y ys => simp only [List.map_cons, zipD, List.zipWith_cons_cons, ih ys]
    rw [gen]
  · intro d hd D
    rw [show ((1 : Int)) = ((1 : Nat) : Int) from rfl, cut_from, ← List.map_drop] at hd
    obtain ⟨i, hi⟩ := List.getElem?_of_mem hd
    obtain ⟨x, y, h1, h2, rfl⟩ := zipD_get hi
    rw [List.getElem?_map] at h1 h2
    obtain ⟨a, _, rfl⟩ := Option.map_eq_some_iff.1 h1
    obtain ⟨b, _, rfl⟩ := Option.map_eq_some_iff.1 h2
    exact ⟨_, rfl, fun s5 H5 C5 cl5 fp5 => ev_cmp c_lt (ev_var (i := 1) rfl (ev_var (i := 2) rfl ⟨_, rfl, rfl⟩))⟩
def strOf : Dt → Str
  | .str z => z | _ => ⟨#[]⟩
def asc (ss : List Str) : Bool := (List.zipWith ltS ss (ss.drop 1)).all id
def isSetD : Dt → Bool
  | .tup ds => ds.all isNameD && asc (ds.map strOf)
  | _ => false
theorem names_strs {ds : List Dt} (h : ds.all isNameD = true) : ds = (ds.map strOf).map Dt.str := by
  induction ds with
  | nil => rfl
  | cons d ds ih =>
    rw [List.all_cons, Bool.and_eq_true] at h
    cases d <;> first | (cases h.1; done) | (rw [List.map_cons, List.map_cons, ← ih h.2]; rfl)
theorem dn_is_set (T : Txt K mg) : DFn P w K mg base 2 "is_set" ["value"] (rPred isSetD Kind) := by
  refine fn_at T.d_is_set sc_is_set rPred_len fun f cdv A outer s H hr F as Pd E hR hO hRt hNx => ?_
  obtain ⟨d, rfl, ⟨hp, hz, hk⟩, hP⟩ := hR
  show SS _ F [.dat d, .un] _ E
  refine ss_ret hRt (ev_and (ev_isi (n := "tuple") T.b_isinstance T.b_tuple (ev_var (i := 0) rfl ⟨hp, _, rfl, fun h => ?_, fun h => ?_⟩)))
  · have hs : ∃ ds, d = .tup ds := by cases d <;> first | exact ⟨_, rfl⟩ | (simp [isB] at h; done)
    obtain ⟨ds, rfl⟩ := hs
    refine ev_and (ev_all T.b_all (ev_lcMap (own := [("name", 1)]) (.nm 1) sc_is_set.nd (blkOk_by (N := n_is_set) (sc := defScope s_is_set) (by decide +kernel)) (by decide) (fun _ _ _ _ _ => pgN sc_is_set.nd)
      (ei_tup (ev_var (i := 0) rfl ⟨ds, rfl, (fun d => .bl (isNameD d)), hz, ⟨ds.map isNameD, by rw [List.map_map]; rfl, _, rfl, fun h2 => ?_, fun h2 => ?_⟩, fun x hx D => ⟨_, rfl, fun s5 H5 C5 cl5 fp5 => ?_⟩⟩))))
    · rw [List.all_map] at h2
      have h2' : ds.all isNameD = true := h2
      refine ev_one (ev_call (dn_are_ascending T) hr (eva_cons (ev_var (i := 0) rfl (eva_nil ⟨_, by rw [← names_strs h2'], ?_, ?_⟩))))
      · rw [List.length_map]
        exact Nat.le_trans (hk ds rfl).1 (by decide)
      · have e : isSetD (.tup ds) = asc (ds.map strOf) := by
          rw [isSetD, h2', Bool.true_and]
        rw [e] at hP
        exact hP
    · rw [List.all_map] at h2
      have e : isSetD (.tup ds) = false := by
        have h2' : ds.all isNameD = false := h2
        rw [isSetD, h2', Bool.false_and]
      rw [e] at hP
      exact hP
    · exact ev_call (dn_is_name T) hr (eva_cons (ev_var (i := 1) rfl (eva_nil ⟨_, rfl, (hk ds rfl).2 x hx, rfl⟩)))
  · have e : isSetD d = false := by cases d <;> first | rfl | (simp [isB] at h; done)
    rw [e] at hP
    exact hP
end
end K00
namespace K00
open PySem PySem.Spec L2 DL
section
variable {P : Program} {w : World} {K : PySem.W.Frag} {mg : Str → Option Value} {base : Heap}
/-! ### the draws -/
def rMill : List Sl → (List Dt → Prop) → Prop := fun as Pd => ∃ (ns : List Int) (k : Nat), as = [.dat (.flst (ns.map Dt.int)), .dat (.int (k : Int))] ∧ k < 1000 ∧ ∀ a b, 0 ≤ a ∧ a < 2 ^ 3000 → 0 ≤ b ∧ b < 2 ^ 62 → Pd [.int a, .int b, .int 0]
theorem mill_a {g : Int} (h1 : g < (10 ^ (58 : Int).toNat) ^ (11 : Int).toNat) : 0 ≤ (if g - 10 ^ (18 : Int).toNat > 0 then g - 10 ^ (18 : Int).toNat else 0) ∧ (if g - 10 ^ (18 : Int).toNat > 0 then g - 10 ^ (18 : Int).toNat else 0) < (2 : Int) ^ 3000 := by
  have e1 : (0 : Int) ≤ 10 ^ (18 : Int).toNat := by decide +kernel
  have e2 : ((10 : Int) ^ (58 : Int).toNat) ^ (11 : Int).toNat ≤ 2 ^ 3000 := by decide +kernel
  have e3 : (0 : Int) < 2 ^ 3000 := by decide +kernel
  revert e1 e2 e3 h1
  generalize ((10 : Int) ^ (58 : Int).toNat) ^ (11 : Int).toNat = M
  generalize (2 : Int) ^ 3000 = B
  generalize (10 : Int) ^ (18 : Int).toNat = C
  intro h1 e1 e2 e3
  split <;> omega
theorem dn_mill (D : DefAt K mg "_law_mill" s_l_mill ["_law_script", "_law_at"]) (T : Txt K mg) : DFnN P w K mg base 1 "_law_mill" ["_law_script", "_law_at"] rMill := by
  refine fn_atN D sc_l_mill (by rintro as Pd ⟨ns, k, rfl, _⟩; rfl) fun f cdv A outer s H hr F as Pd E hR hO hRt => ?_
  obtain ⟨ns, k, rfl, hk, hP⟩ := hR
  show SS _ F [.dat (.flst (ns.map Dt.int)), .dat (.int (k : Int)), .un, .un, .un] _ E
  refine ss_set (i := 2) sc_l_mill.nd (Ev.mono (P := fun d => ∃ c, d = .int c) ?_ fun d ⟨cell, hd⟩ => ?_)
  · refine ev_ifExp (et_cmp c_lt (ev_var (i := 1) rfl (ev_len T.b_len (ev_var (i := 0) rfl ⟨_, rfl, trivial, _, rfl, fun h => ?_, fun h => ?_⟩))))
    · have hk2 : k < ns.length := by simpa using h
      refine ev_ix (ev_var (i := 0) rfl (ev_var (i := 1) rfl ⟨.int ns[k], ?_, trivial, _, rfl⟩))
      show L2.atI _ _ = _
      unfold L2.atI ixN
      rw [if_pos (Int.natCast_nonneg k), if_pos (by simpa using hk2)]
      simp [hk2]
    · exact ev_add (ev_mulS (ev_int (ev_var (i := 1) rfl ⟨_, _, rfl, rfl, .inl ⟨by decide, by decide⟩, ev_int ⟨_, rfl, trivial, _, rfl⟩⟩)))
  subst hd
  refine ss_set (i := 3) sc_l_mill.nd (ev_mod (ev_intof T.b_int (ev_abs T.b_abs (ev_var (i := 2) rfl ⟨_, rfl, _, rfl, ev_pow (ev_pow (ev_int (ev_int ⟨_, _, rfl, rfl, ⟨by decide +kernel, by decide +kernel⟩, ev_int ⟨_, _, rfl, rfl, ⟨by decide +kernel, by decide +kernel⟩, _, _, rfl, rfl, by decide +kernel, ?_⟩⟩)))⟩))))
  have hg1 := Int.emod_lt_of_pos (if cell < 0 then -cell else cell) (show (0 : Int) < (10 ^ (58 : Int).toNat) ^ (11 : Int).toNat by decide +kernel)
  have hg0 := Int.emod_nonneg (if cell < 0 then -cell else cell) (show ((10 : Int) ^ (58 : Int).toNat) ^ (11 : Int).toNat ≠ 0 by decide +kernel)
  revert hg0 hg1
  generalize (if cell < 0 then -cell else cell) % (10 ^ (58 : Int).toNat) ^ (11 : Int).toNat = g
  intro hg1 hg0
  refine ss_set (i := 4) sc_l_mill.nd (Ev.mono (P := fun d => ∃ c, d = .int c) ?_ fun d ⟨mixed, hd⟩ => ?_)
  · refine ev_add (ev_add (ev_add (ev_mulS (ev_mod (ev_intof T.b_int (ev_var (i := 3) rfl ⟨_, rfl, ev_int ⟨_, _, rfl, rfl, by decide, ev_int ⟨_, _, rfl, rfl, .inr ⟨by decide, by decide⟩, ?_⟩⟩⟩))))))
    refine ev_mulS (ev_int (ev_var (i := 1) rfl ⟨_, _, rfl, rfl, .inl ⟨by decide, by decide⟩, _, rfl, trivial, ?_⟩))
    refine ev_mulS (ev_int (ev_intof T.b_int (ev_cmp c_lt (ev_var (i := 2) rfl (ev_int ⟨_, rfl, _, rfl, _, _, rfl, rfl, .inl ⟨by decide, by decide⟩, _, rfl, trivial, ev_int ⟨_, rfl, trivial, _, rfl⟩⟩)))))
  subst hd
  refine ss_retN hRt (en_lst (evl_cons (ev_max2 T.b_max (evl_cons (ev_int (evl_cons (ev_sub (ev_var (i := 3) rfl (ev_pow (ev_int (ev_int ⟨_, _, rfl, rfl, ⟨by decide +kernel, by decide +kernel⟩, _, _, rfl, rfl, evl_nil ⟨_, _, rfl, ?_⟩⟩)))))))))))
  refine evl_cons (ev_mod (ev_intof T.b_int (ev_var (i := 4) rfl ⟨_, rfl, ev_int ⟨_, _, rfl, rfl, by decide, evl_cons (ev_int (evl_nil ⟨szb rfl, ?_⟩))⟩⟩)))
  refine hP _ _ (mill_a hg1) ⟨Int.emod_nonneg _ (by decide), ?_⟩
  have hm := Int.emod_lt_of_pos mixed (show (0 : Int) < 2305843009213693907 by decide)
  exact Int.lt_trans hm (by decide)
def rGrain : List Sl → (Dt → Prop) → Prop := fun as Pd => ∃ n : Int, as = [.mil, .dat (.int n)] ∧ 0 < n ∧ n.natAbs.log2 < 9000 ∧ ∀ r, 0 ≤ r → r < n → Pd (.int r)
theorem ediv_bd {a n B : Int} (h0 : 0 ≤ a) (h1 : a < B) (hn : 0 < n) : 0 ≤ a / n ∧ a / n < B := by
  have h2 := Int.ediv_nonneg h0 (Int.le_of_lt hn)
  have h3 := Int.ediv_le_self n h0
  exact ⟨h2, Int.lt_of_le_of_lt h3 h1⟩
theorem dn_grain (T : Txt K mg) : DFn P w K mg base 1 "_law_grain" ["_law_mill_here", "_law_total"] rGrain := by
  refine fn_at T.d_l_grain sc_l_grain (by rintro as Pd ⟨n, rfl, _⟩; rfl) fun f cdv A outer s H hr F as Pd E hR hO hRt hNx => ?_
  obtain ⟨n, rfl, hn, hl, hP⟩ := hR
  show SS _ F [.mil, .dat (.int n), .un, .un, .un] _ E
  refine ss_if (et_cmp c_gt (ev_milIx (i := 0) (j := 0) rfl (by decide) fun a ha => ev_int ⟨_, rfl, fun h => ?_, fun h => ?_⟩))
  · refine ss_set (i := 4) sc_l_grain.nd (ev_mod (ev_intof T.b_int (ev_milIx (i := 0) (j := 0) rfl (by decide) fun a2 ha2 => ⟨_, rfl, ev_var (i := 1) rfl ⟨_, _, rfl, rfl, hn, ?_⟩⟩)))
    refine ss_milSet (i := 0) (j := 0) rfl (by decide) (ev_fdiv (ev_milIx (i := 0) (j := 0) rfl (by decide) fun a3 ha3 => ev_var (i := 1) rfl ⟨_, _, rfl, rfl, ⟨hn, hl⟩, _, rfl, ⟨fun _ => ediv_bd (ha3.1 rfl).1 (ha3.1 rfl).2 hn, fun z => (by cases z)⟩, ?_⟩))
    exact ss_ret hRt.nx (ev_var (i := 4) rfl (hP _ (Int.emod_nonneg _ (Int.ne_of_gt hn)) (Int.emod_lt_of_pos _ hn)))
  · refine ss_nil nx_rest ?_
    refine ss_milSet (i := 0) (j := 2) rfl (by decide) (ev_add (ev_milIx (i := 0) (j := 2) rfl (by decide) fun c hc => ev_int ⟨_, rfl, trivial, _, rfl, ⟨fun z => (by cases z), fun z => (by cases z)⟩, ?_⟩))
    refine ss_set (i := 2) sc_l_grain.nd (ev_mod (ev_intof T.b_int (ev_add (ev_milIx (i := 0) (j := 1) rfl (by decide) fun b hb => ev_mulS (ev_int (ev_milIx (i := 0) (j := 2) rfl (by decide) fun c2 hc2 => ⟨_, _, rfl, rfl, .inl ⟨by decide, by decide⟩, _, rfl, trivial, _, rfl, ev_int ⟨_, _, rfl, rfl, by decide, ?_⟩⟩))))))
    have h1 := Int.emod_lt_of_pos (b + 1000381 * c2) (show (0 : Int) < 2305843009213693951 by decide)
    have h0 := Int.emod_nonneg (b + 1000381 * c2) (show (2305843009213693951 : Int) ≠ 0 by decide)
    revert h0 h1
    generalize (b + 1000381 * c2) % 2305843009213693951 = one
    intro h1 h0
    have hone : CMul one one := .inl ⟨by omega, by omega⟩
    refine ss_set (i := 3) sc_l_grain.nd (Ev.mono (P := fun d => ∃ t, d = .int t) ?_ fun d ⟨two, hd⟩ => ?_)
    · refine ev_add (ev_mulS (ev_mod (ev_intof T.b_int (ev_mulS (ev_var (i := 2) rfl (ev_var (i := 2) rfl ⟨_, _, rfl, rfl, hone, _, rfl, ev_int ⟨_, _, rfl, rfl, by decide, ev_var (i := 2) rfl ⟨_, _, rfl, rfl, .inr ⟨by omega, by omega⟩, ?_⟩⟩⟩))))))
      exact ev_mulS (ev_int (ev_milIx (i := 0) (j := 2) rfl (by decide) fun c3 hc3 => ⟨_, _, rfl, rfl, .inl ⟨by decide, by decide⟩, _, rfl, trivial, _, rfl⟩))
    subst hd
    refine ss_ret hRt (ev_mod (ev_intof T.b_int (ev_fdiv (ev_mod (ev_intof T.b_int (ev_var (i := 3) rfl ⟨_, rfl, ev_int ⟨_, _, rfl, rfl, by decide, ev_int ⟨_, _, rfl, rfl, ⟨by decide, by decide +kernel⟩, _, rfl, ev_var (i := 1) rfl ⟨_, _, rfl, rfl, hn, ?_⟩⟩⟩⟩))))))
    exact hP _ (Int.emod_nonneg _ (Int.ne_of_gt hn)) (Int.emod_lt_of_pos _ hn)
/-- one of the items -/
def rOneOf : List Sl → (Dt → Prop) → Prop := fun as Pd => ∃ d ds, as = [.mil, .dat d] ∧ seqD d = some ds ∧ Sz d ∧ ds ≠ [] ∧ ds.length < 2 ^ 20 ∧ ∀ x ∈ ds, Pd x
theorem log_small {n : Nat} (h : n < 2 ^ 20) : (n : Int).natAbs.log2 < 9000 := by
  rw [Int.natAbs_natCast]
  by_cases e : n = 0
  · subst e; decide
  · exact Nat.lt_trans ((Nat.log2_lt e).2 h) (by decide)
theorem atI_get' {ds : List Dt} {r : Int} (h0 : 0 ≤ r) (h1 : r < ds.length) : ∃ x, L2.atI ds r = some x ∧ x ∈ ds := by
  have hr : r.toNat < ds.length := by omega
  refine ⟨ds[r.toNat], ?_, List.getElem_mem hr⟩
  unfold L2.atI ixN
  rw [if_pos h0, if_pos h1]
  show ds[r.toNat]? = _
  exact List.getElem?_eq_getElem hr
theorem dn_one_of (T : Txt K mg) : DFn P w K mg base 2 "_law_one_of" ["_law_mill_here", "_law_items"] rOneOf := by
  refine fn_at T.d_l_one_of sc_l_one_of (by rintro as Pd ⟨d, ds, rfl, _⟩; rfl) fun f cdv A outer s H hr F as Pd E hR hO hRt hNx => ?_
  obtain ⟨d, ds, rfl, hd, hz, hne, hl, hP⟩ := hR
  show SS _ F [.mil, .dat d] _ E
  have hlen : lenD d = some ds.length := by
    cases d <;> simp only [seqD] at hd <;> first | (cases hd; rfl) | cases hd
  have hpos : 0 < ds.length := List.length_pos_iff.2 hne
  refine ss_ret hRt (ev_ix (ev_var (i := 1) rfl (ev_call (dn_grain T) hr (eva_mil (i := 0) rfl (eva_cons (ev_len T.b_len (ev_var (i := 1) rfl ⟨_, hlen, hz, eva_nil ⟨_, rfl, by omega, log_small hl, fun r h0 h1 => ?_⟩⟩)))))))
  obtain ⟨x, hx, hm⟩ := atI_get' h0 h1
  exact ⟨x, (by cases d <;> simp only [seqD] at hd <;> first | (cases hd; exact hx) | (cases hd)), hz, hP x hm⟩
def abc : Str := "abcdefghijklmnopqrstuvwxyz"
theorem abc_codes : abc.cps.toList = (List.range 26).map (· + 97) := by decide +kernel
def rLetter : List Sl → (Dt → Prop) → Prop := fun as Pd => as = [.mil] ∧ ∀ c : Nat, 97 ≤ c → c ≤ 122 → Pd (.str ⟨#[c]⟩)
theorem dn_letter (T : Txt K mg) : DFn P w K mg base 2 "_law_letter" ["_law_mill_here"] rLetter := by
  refine fn_at T.d_l_letter sc_l_letter (by rintro as Pd ⟨rfl, _⟩; rfl) fun f cdv A outer s H hr F as Pd E hR hO hRt hNx => ?_
  obtain ⟨rfl, hP⟩ := hR
  show SS _ F [.mil] _ E
  refine ss_ret hRt (ev_ix (ev_str (ev_call (dn_grain T) hr (eva_mil (i := 0) rfl (eva_cons (ev_int (eva_nil ⟨_, rfl, by decide, by decide +kernel, fun r h0 h1 => ?_⟩)))))))
  have hr : r.toNat < 26 := by omega
  refine ⟨.str ⟨#[r.toNat + 97]⟩, ?_, szb (by decide +kernel), hP _ (by omega) (by omega)⟩
  show (L2.atI abc.cps.toList r).map _ = _
  rw [abc_codes]
  unfold L2.atI ixN
  rw [if_pos h0, if_pos (by simpa using h1)]
  show (((List.range 26).map (· + 97))[r.toNat]?).map _ = _
  simp [hr]
/-- the items in a drawn order -/
def rOrder : List Sl → (Dt → Prop) → Prop := fun as Pd => ∃ d ds, as = [.mil, .dat d] ∧ (seqD d = some ds ∨ ∃ z, d = .str z ∧ ds = signs z) ∧ Sz d ∧ ds.length < 2 ^ 20 ∧ ∀ rs : List Dt, rs.Perm ds → Pd (.lst rs)
theorem dn_order (T : Txt K mg) : DFn P w K mg base 2 "_law_order" ["_law_mill_here", "_law_items"] rOrder := by
  refine fn_at T.d_l_order sc_l_order (by rintro as Pd ⟨d, ds, rfl, _⟩; rfl) fun f cdv A outer s H hr F as Pd E hR hO hRt hNx => ?_
  obtain ⟨d, ds, rfl, hd, hz, hl, hP⟩ := hR
  show SS _ F [.mil, .dat d, .un, .un] _ E
  have hlen : lenD d = some ds.length := by
    rcases hd with hd | ⟨z, rfl, rfl⟩
    · cases d <;> simp only [seqD] at hd <;> first | (cases hd; rfl) | cases hd
    · simp [lenD, signs, Str.length]
  refine ss_own (i := 2) sc_l_order.nd ?_
  have fin : ∀ p, ¬ F.M p → F.H0 p = none → SS (cxOf CX0 P w K mg base ["_law_mill_here", "_law_items", "_law_waits", "_law_turn"] "_law_order" (defScope s_l_order) f cdv A outer s H E0).nox (F.add p) [.mil, .dat d, .own p (.lst ds), .un] ((defBody s_l_order).drop 1) E := fun p hp h0 => by
    refine ss_retPop (i := 2) (own := [("_law_turn", 3)]) (.nm 3) sc_l_order.nd (blkOk_by (N := ["_law_mill_here", "_law_items", "_law_waits", "_law_turn"]) (sc := defScope s_l_order) (by decide +kernel)) (by decide) (by decide)
      (fun _ _ _ _ _ => pgN sc_l_order.nd) rfl hl (hRt.add h0) hP ?_ ?_ ?_ (fun _ _ _ _ _ => pv 2) ?_
    · refine ei_range1 T.b_range (ev_len T.b_len (ev_var (i := 1) rfl ⟨_, hlen, hz, _, rfl, by omega, by omega, ?_⟩))
      exact ⟨by simp [rangeD], fun u _ Γ' => rfl⟩
    · rintro D rem Γ2 hne hle ⟨u, hb⟩ s5 H5 C5 cl5 fp5
      cases hb
      have hpos : 0 < rem.length := List.length_pos_iff.2 hne
      exact ev_call (dn_grain T) hr (eva_mil (i := 0) rfl (eva_cons (ev_lenOwn (i := 2) T.b_len rfl (eva_nil ⟨_, rfl, by omega, log_small (by omega), fun r h0 h1 => ⟨r, rfl, h0, h1⟩⟩))))
    · rintro u Γ' Γ2 hb
      cases hb
      exact List.getElem?_set_ne (by decide)
    · intro s5 H5 C5 cl5 fp5 to t h1 h2
      exact pe_bm PySem.F.plainAttrs_list PySem.F.slot_list_pop PySem.F.type_list_pop mt_popAt h1 (pa_cons h2 pa_nil)
  rcases hd with hd | ⟨z, rfl, rfl⟩
  · exact en_listOf T.b_list (ev_var (i := 1) rfl ⟨ds, hd, fin⟩)
  · exact en_listS T.b_list (ev_var (i := 1) rfl ⟨z, rfl, hz, fin⟩)
end
end K00
namespace K00
open PySem PySem.Spec L2 DL
section
variable {P : Program} {w : World} {K : PySem.W.Frag} {mg : Str → Option Value} {base : Heap}
/-! ### drawn names -/
def Ltr (l : List Nat) : Prop := ∀ c ∈ l, small c = true
theorem small_iff {c : Nat} : small c = true ↔ 97 ≤ c ∧ c ≤ 122 := by simp [small]
theorem isName_tx {l : List Nat} (h1 : 1 ≤ l.length) (h2 : l.length ≤ 8) (h : Ltr l) : isNameS (tx l) = true := by
  unfold isNameS
  rw [tx_len, tx_codes, decide_eq_true h1, decide_eq_true h2]
  exact List.all_eq_true.2 h
/-- a text of so many drawn letters: ''.join([letter(mill) for at in range(grain(mill, n))]) has this datum -/
theorem letters_of {rs : List Dt} (h : ∀ r ∈ rs, ∃ c : Nat, r = .str (tx [c]) ∧ small c = true) : ∃ l : List Nat, rs = (l.map fun c => tx [c]).map Dt.str ∧ Ltr l := by
  induction rs with
  | nil => exact ⟨[], rfl, fun c hc => by cases hc⟩
  | cons r rs ih =>
    obtain ⟨l, e, hl⟩ := ih fun x hx => h x (List.mem_cons_of_mem _ hx)
    obtain ⟨c, rfl, hc⟩ := h r List.mem_cons_self
    refine ⟨c :: l, by rw [e]; rfl, fun d hd => ?_⟩
    rcases List.mem_cons.1 hd with rfl | hd
    · exact hc
    · exact hl d hd
def rNames : List Sl → (Dt → Prop) → Prop := fun as Pd => ∃ m : Nat, as = [.mil, .dat (.int (m : Int))] ∧ m ≤ 26 ∧ ∀ ns : List Str, ns.length = m → ns.Nodup → (∀ n ∈ ns, isNameS n = true) → Pd (.lst (ns.map Dt.str))
theorem dn_many_names (T : Txt K mg) : DFn P w K mg base 3 "_law_many_names" ["_law_mill_here", "_law_much"] rNames := by
  refine fn_at T.d_l_many_names sc_l_many_names (by rintro as Pd ⟨d, rfl, _⟩; rfl) fun f cdv A outer s H hr F as Pd E hR hO hRt hNx => ?_
  obtain ⟨m, rfl, hm, hP⟩ := hR
  show SS _ F [.mil, .dat (.int (m : Int)), .un, .un, .un, .un, .un, .un] _ E
  refine ss_par3N (i := 2) (j := 3) (l := 4) sc_l_many_names.nd (ev_join (ev_str ⟨_, rfl, ?_⟩))
  refine ev_lcRel (own := [("_law_at", 7)]) (.nm 7) (fun _ r => ∃ c : Nat, r = .str (tx [c]) ∧ small c = true) sc_l_many_names.nd (blkOk_by (N := n_l_many_names) (sc := defScope s_l_many_names) (by decide +kernel)) (by decide) (fun _ _ _ _ _ => pgN sc_l_many_names.nd)
    (ei_range1 T.b_range (ev_call (dn_grain T) hr (eva_mil (i := 0) rfl (eva_cons (ev_int (eva_nil ⟨_, rfl, by decide, by decide +kernel, fun k h0 h1 => ⟨_, rfl, by omega, by omega, ?_, fun rs hl hrs => ?_, ?_⟩⟩))))))
  · rw [rangeD, List.length_map, List.length_range]; exact Nat.le_trans (show k.toNat ≤ 8 by omega) (szb rfl)
  · have hrl : rs.length = k.toNat := by rw [hl]; simp [rangeD]
    obtain ⟨bs, eb, hb⟩ := letters_of (rs := rs) fun r hr' => by
      obtain ⟨i, hi⟩ := List.getElem?_of_mem hr'
      have hil : i < (rangeD 0 k.toNat).length := by rw [← hl]; exact (List.getElem?_eq_some_iff.1 hi).1
      exact hrs i _ r (List.getElem?_eq_getElem hil) hi
    have hbl : bs.length ≤ 7 := by
      have : rs.length = bs.length := by rw [eb]; simp
      omega
    refine ⟨bs.map fun c => tx [c], by rw [eb], ?_, ?_⟩
    · have e1 : ((bs.map fun c => tx [c]).map (·.length)).sum ≤ 7 := by
        have : ∀ l : List Nat, ((l.map fun c => tx [c]).map (·.length)).sum = l.length := fun l => by
          induction l with
          | nil => rfl
          | cons c l ih => rw [List.map_cons, List.map_cons, List.sum_cons, ih, List.length_cons, tx_len]; simp; omega
        rw [this]; exact hbl
      have e2 : (("" : Str)).length = 0 := by decide +kernel
      rw [e2, Nat.mul_zero]
      omega
    have ej : Txt.join ("" : Str) (bs.map fun c => tx [c]) = tx bs := join_tx bs
    rw [ej]
    refine ev_call (dn_grain T) hr (eva_mil (i := 0) rfl (eva_cons (ev_int (eva_nil ⟨_, rfl, by decide, by decide +kernel, fun lot hl0 hl1 => en_lst (evl_nil ⟨szb rfl, fun p hp h0 => ?_⟩)⟩))))
    show SS _ (F.add p) [.mil, .dat (.int (m : Int)), .dat (.str (tx bs)), .dat (.int lot), .own p (.lst []), .un, .un, .un] _ E
    have hRt' := hRt.add h0
    refine ss_set (i := 5) sc_l_many_names.nd (ev_call (dn_grain T) hr (eva_mil (i := 0) rfl (eva_cons (ev_add (ev_len T.b_len (ev_var (i := 2) rfl ⟨_, rfl, tx_sz (by omega), ev_int ⟨_, rfl, trivial, eva_nil ⟨_, rfl, by omega, by rw [tx_len]; exact log_small (n := bs.length + 1) (by omega), fun spot hs0 hs1 => ?_⟩⟩⟩))))))
    rw [tx_len] at hs1
    obtain ⟨sp, rfl⟩ := Int.eq_ofNat_of_zero_le hs0
    have hsp : sp ≤ bs.length := by omega
    let pos : Nat := if lot = 0 then sp else 0
    refine ss_for (.nm 6) (pgN sc_l_many_names.nd) ?_
    refine ei_lst (ev_slice ?_)
    refine ev_call (dn_order T) hr (eva_mil (i := 0) rfl (eva_cons (ev_str (eva_nil ?_))))
    refine ⟨_, _, rfl, .inr ⟨abc, rfl, rfl⟩, szb (by decide +kernel), by decide +kernel, fun rs hp' => ?_⟩
    have hrl' : rs.length = 26 := by rw [hp'.length_eq]; decide +kernel
    have hrc : ∀ r ∈ rs, ∃ c, r = .str (tx [c]) ∧ small c = true := fun r hr' => by
      have hr2 := hp'.mem_iff.1 hr'
      unfold DL.signs at hr2
      rw [abc_codes] at hr2
      obtain ⟨c, hc, rfl⟩ := List.mem_map.1 hr2
      obtain ⟨j, hj, rfl⟩ := List.mem_map.1 hc
      have := List.mem_range.1 hj
      exact ⟨_, rfl, small_iff.2 ⟨by omega, by omega⟩⟩
    have hrn : rs.Nodup := hp'.nodup_iff.2 (by
      unfold DL.signs
      rw [abc_codes, List.map_map]
      refine List.pairwise_map.2 (List.nodup_range.imp fun {a b} h e => h ?_)
      have e2 : tx [a + 97] = tx [b + 97] := Dt.str.inj e
      have := tx_inj e2
      simp at this
      exact this)
    refine ev_var (i := 1) rfl ⟨_, rfl, _, rfl, by show rs.length ≤ _; rw [hrl']; exact szb rfl, _, .inl rfl, fun k Γ' => ∃ ns : List Str, Γ' = [.mil, .dat (.int (m : Int)), .dat (.str (tx bs)), .dat (.int lot), .own p (.lst (ns.map Dt.str)), .dat (.int (sp : Int)), .un, .un] ∧ ns.length = k ∧ ∀ (i : Nat) n c, ns[i]? = some n → rs[i]? = some (.str (tx [c])) → isNameS n = true ∧ n.cps.toList[pos]? = some c, ?_, ?_, ?_⟩
    · exact ⟨[], rfl, rfl, fun i n c h => by simp at h⟩
    · rintro k d Γ' hd ⟨ns, rfl, hnl, hns⟩
      rw [cut_to, List.getElem?_take] at hd
      split at hd
      case isFalse => cases hd
      rename_i hkm
      obtain ⟨c, rfl, hc⟩ := hrc d (List.mem_of_getElem? hd)
      refine ⟨_, rfl, fun Fl E' L => ?_⟩
      show SS _ Fl [.mil, .dat (.int (m : Int)), .dat (.str (tx bs)), .dat (.int lot), .own p (.lst (ns.map Dt.str)), .dat (.int (sp : Int)), .dat (.str (tx [c])), .un] _ E'
      have szl : (ns.map Dt.str).length < sizeLine := by rw [List.length_map, hnl]; exact Nat.lt_of_lt_of_le (show k < 100 by omega) (szb rfl)
      have fin : ∀ l : List Nat, 1 ≤ l.length → l.length ≤ 8 → Ltr l → l[pos]? = some c → SS (cxOf CX0 P w K mg base n_l_many_names "_law_many_names" (defScope s_l_many_names) f cdv A outer s H E0).nox Fl [.mil, .dat (.int (m : Int)), .dat (.str (tx bs)), .dat (.int lot), .own p (.lst (ns.map Dt.str ++ [.str (tx l)])), .dat (.int (sp : Int)), .dat (.str (tx [c])), .un] [] E' := fun l h1 h2 h3 h4 => by
        refine ss_nilW (Γ' := [.mil, .dat (.int (m : Int)), .dat (.str (tx bs)), .dat (.int lot), .own p (.lst (ns.map Dt.str ++ [.str (tx l)])), .dat (.int (sp : Int)), .un, .un]) L.nx (wk_s (wk_s (wk_s (wk_s (wk_s (wk_s (wk_u (wk_s wk_nil)))))))) ⟨ns ++ [tx l], by rw [List.map_append]; rfl, by rw [List.length_append, hnl]; rfl, fun i n c' hi hc' => ?_⟩
        rcases Nat.lt_or_ge i ns.length with hlt | hge
        · rw [List.getElem?_append_left hlt] at hi
          exact hns i n c' hi hc'
        · rw [List.getElem?_append_right hge] at hi
          have ei : i = k := by
            rcases Nat.lt_or_ge (i - ns.length) 1 with h | h
            · omega
            · rw [List.getElem?_eq_none (by simpa using h)] at hi; cases hi
          subst ei
          rw [hnl, Nat.sub_self] at hi
          have en : tx l = n := by simpa using hi
          subst en
          rw [hd] at hc'
          have ec : c = c' := by
            have e1 := tx_inj (Dt.str.inj (Option.some.inj hc'))
            simpa using e1
          subst ec
          exact ⟨isName_tx h1 h2 h3, by rw [tx_codes]; exact h4⟩
      have hbt : ∀ x ∈ bs, small x = true := hb
      refine ss_if (et_eq hr.hu (ev_var (i := 3) rfl (ev_int ⟨rfl, rfl, fun h => ?_, fun h => ?_⟩)))
      · have h0' : lot = 0 := by simpa [Dt.py, PyData.eqv] using h
        refine ss_append (i := 4) rfl (ev_add (ev_add (ev_slice (ev_var (i := 2) rfl (ev_var (i := 5) rfl ⟨_, rfl, _, rfl, tx_sz (by omega), ev_var (i := 6) rfl ⟨_, rfl, ?_, ev_slice (ev_var (i := 2) rfl (ev_var (i := 5) rfl ⟨_, rfl, _, rfl, tx_sz (by omega), _, rfl, ?_, szl, ?_⟩))⟩⟩)))))
        · rw [tx_cut_to, tx_app]; exact tx_sz (by simp; omega)
        · rw [tx_cut_to, tx_cut_from, tx_app, tx_app]; exact tx_sz (by simp; omega)
        · rw [tx_cut_to, tx_cut_from, tx_app, tx_app]
          refine ss_nil nx_rest (fin _ (by simp; omega) (by simp; omega) (fun x hx => ?_) ?_)
          · simp only [List.mem_append, List.mem_singleton] at hx
            rcases hx with (hx | rfl) | hx
            · exact hbt x (List.mem_of_mem_take hx)
            · exact hc
            · exact hbt x (List.mem_of_mem_drop hx)
          · show ((bs.take sp ++ [c]) ++ bs.drop sp)[pos]? = some c
            have ep : pos = sp := if_pos h0'
            have el : (bs.take sp).length = sp := by rw [List.length_take]; omega
            rw [ep, List.append_assoc, List.getElem?_append_right (by omega), el, Nat.sub_self]
            rfl
      · have h0' : lot ≠ 0 := by simpa [Dt.py, PyData.eqv] using h
        have ep : pos = 0 := if_neg h0'
        refine ss_if (et_eq hr.hu (ev_var (i := 3) rfl (ev_int ⟨rfl, rfl, fun h => ?_, fun h => ?_⟩)))
        · refine ss_append (i := 4) rfl (ev_add (ev_var (i := 6) rfl (ev_slice (ev_var (i := 2) rfl ?_))))
          refine ev_call (dn_grain T) hr (eva_mil (i := 0) rfl (eva_cons (ev_add (ev_len T.b_len (ev_var (i := 2) rfl ⟨_, rfl, tx_sz (by omega), ev_int ⟨_, rfl, trivial, eva_nil ⟨_, rfl, by omega, by rw [tx_len]; exact log_small (n := bs.length + 1) (by omega), fun q q0 q1 => ?_⟩⟩⟩)))))
          rw [tx_len] at q1
          obtain ⟨q, rfl⟩ := Int.eq_ofNat_of_zero_le q0
          refine ⟨_, rfl, _, rfl, tx_sz (by omega), _, rfl, ?_, szl, ?_⟩
          · rw [tx_cut_to, tx_app]; exact tx_sz (by simp; omega)
          · rw [tx_cut_to, tx_app]
            refine ss_nil nx_rest (ss_nil nx_rest (fin _ (by simp) (by simp; omega) (fun x hx => ?_) (by rw [ep]; rfl)))
            rcases List.mem_append.1 hx with hx | hx
            · rw [List.mem_singleton.1 hx]; exact hc
            · exact hbt x (List.mem_of_mem_take hx)
        · refine ss_append (i := 4) rfl (ev_slice (ev_mulStr (ev_var (i := 6) rfl (ev_int ⟨_, _, rfl, rfl, mulOk8 c, ?_⟩))))
          refine ev_add (ev_int (ev_call (dn_grain T) hr (eva_mil (i := 0) rfl (eva_cons (ev_int (eva_nil ⟨_, rfl, by decide, by decide +kernel, fun q q0 q1 => ?_⟩))))))
          obtain ⟨q, rfl⟩ := Int.eq_ofNat_of_zero_le q0
          refine ⟨_, rfl, trivial, _, rfl, _, rfl, by rw [mul8]; exact tx_sz (by simp), szl, ?_⟩
          rw [mul8, show (1 : Int) + ((q : Nat) : Int) = ((q + 1 : Nat) : Int) by omega, tx_cut_to]
          refine ss_nil nx_rest (ss_nil nx_rest (fin _ (by simp) (by simp; omega) (fun x hx => ?_) (by rw [ep]; rfl)))
          rw [List.eq_of_mem_replicate (List.mem_of_mem_take hx)]
          exact hc
    · rintro Γ' ⟨ns, rfl, hnl, hns⟩
      rw [cut_to, List.length_take, hrl', Nat.min_eq_left hm] at hnl
      have at_ : ∀ i : Nat, i < m → ∃ c, rs[i]? = some (.str (tx [c])) := fun i hi => by
        have hi' : i < rs.length := by omega
        obtain ⟨c, hc, _⟩ := hrc _ (List.getElem_mem hi')
        exact ⟨c, by rw [List.getElem?_eq_getElem hi', hc]⟩
      refine ss_freeze (i := 4) h0 hp hRt.wf rfl (ss_ret hRt (ev_var (i := 4) rfl (hP ns hnl ?_ ?_)))
      · refine List.pairwise_iff_getElem.2 fun i j hi hj hij e => ?_
        obtain ⟨a, ha⟩ := at_ i (by omega)
        obtain ⟨b, hb'⟩ := at_ j (by omega)
        have h1 := (hns i _ a (List.getElem?_eq_getElem hi) ha).2
        have h2 := (hns j _ b (List.getElem?_eq_getElem hj) hb').2
        rw [← e, h1] at h2
        have hab : a = b := Option.some.inj h2
        subst hab
        have hi2 : i < rs.length := by omega
        have hj2 : j < rs.length := by omega
        refine List.pairwise_iff_getElem.1 hrn i j hi2 hj2 hij ?_
        have e1 := (List.getElem?_eq_getElem hi2).symm.trans ha
        have e2 := (List.getElem?_eq_getElem hj2).symm.trans hb'
        exact Option.some.inj (e1.trans e2.symm)
      · intro n hn
        obtain ⟨i, hi⟩ := List.getElem?_of_mem hn
        obtain ⟨c, hc⟩ := at_ i (by rw [← hnl]; exact (List.getElem?_eq_some_iff.1 hi).1)
        exact (hns i n c hi hc).1
  · intro d hd D
    refine ⟨_, rfl, fun s5 H5 C5 cl5 fp5 => ev_call (dn_letter T) hr (eva_mil (i := 0) rfl (eva_nil ⟨rfl, fun c h0 h1 => ⟨c, rfl, small_iff.2 ⟨h0, h1⟩⟩⟩))⟩
end
end K00
namespace K00
open PySem PySem.Spec L2 DL
section
variable {P : Program} {w : World} {K : PySem.W.Frag} {mg : Str → Option Value} {base : Heap}
/-! ### the law's own look -/
theorem dn_is_short (T : Txt K mg) : DFn P w K mg base 1 "_law_is_short" ["_law_value"] (rPred isIntD (fun d => plainT d = true)) := by
  refine fn_at T.d_l_is_short sc_l_is_short rPred_len fun f cdv A outer s H hr F as Pd E hR hO hRt hNx => ?_
  obtain ⟨d, rfl, hp, hP⟩ := hR
  show SS _ F [.dat d] _ E
  refine ss_ret hRt (ev_and (ev_isi (n := "int") T.b_isinstance T.b_int (ev_var (i := 0) rfl ⟨hp, _, rfl, fun h => ?_, fun h => ?_⟩)))
  · refine ev_and (ev_not (ev_isi (n := "bool") T.b_isinstance T.b_bool (ev_var (i := 0) rfl ⟨hp, _, rfl, _, rfl, fun h2 => ?_, fun h2 => ?_⟩)))
    · have hi : ∃ i, d = .int i := by
        cases d <;> first | (simp [isB] at h h2; done) | exact ⟨_, rfl⟩
      obtain ⟨i, rfl⟩ := hi
      have eq : isIntD (.int i) = (decide (0 - 10 ^ (60 : Int).toNat < i) && decide (i < 10 ^ (60 : Int).toNat)) := by
        rw [isIntD]
        have e1 : (10 : Int) ^ (60 : Int).toNat = 10 ^ 60 := rfl
        rw [e1]
        generalize (10 : Int) ^ 60 = B
        congr 1
        · exact decide_eq_decide.2 (by omega)
        · exact decide_eq_decide.2 (by omega)
      rw [eq] at hP
      refine ev_and (ev_cmp c_lt (ev_sub (ev_int (ev_pow (ev_int (ev_int ⟨_, _, rfl, rfl, ⟨by decide +kernel, by decide +kernel⟩, _, _, rfl, rfl, ev_var (i := 0) rfl ⟨_, rfl, _, rfl, fun h3 => ?_, fun h3 => ?_⟩⟩))))))
      · refine ev_one (ev_cmp c_lt (ev_var (i := 0) rfl (ev_pow (ev_int (ev_int ⟨_, _, rfl, rfl, ⟨by decide +kernel, by decide +kernel⟩, _, rfl, ?_⟩)))))
        rw [h3, Bool.true_and] at hP
        exact hP
      · rw [h3, Bool.false_and] at hP
        exact hP
    · have : isIntD d = false := by
        cases d <;> first | rfl | (simp [isB] at h h2; done)
      rw [this] at hP
      exact hP
  · have : isIntD d = false := by
      cases d <;> first | rfl | (simp [isB] at h; done)
    rw [this] at hP
    exact hP
theorem mem_abc {c : Nat} : (c ∈ abc.cps.toList) ↔ small c = true := by
  rw [abc_codes, small_iff]
  simp only [List.mem_map, List.mem_range]
  constructor
  · rintro ⟨a, h, rfl⟩; omega
  · intro h; exact ⟨c - 97, by omega, by omega⟩
/-- what is told of a value here -/
def OkV (d : Dt) : Prop := plainT d = true ∧ Sz d ∧ ∀ z, d = .str z → PyData.strOk z = true
theorem dn_spelled (T : Txt K mg) : DFn P w K mg base 1 "_law_spelled" ["_law_value"] (rPred isNameD OkV) := by
  refine fn_at T.d_l_spelled sc_l_spelled rPred_len fun f cdv A outer s H hr F as Pd E hR hO hRt hNx => ?_
  obtain ⟨d, rfl, ⟨hp, hz, hk⟩, hP⟩ := hR
  show SS _ F [.dat d, .un] _ E
  refine ss_if (EvW.t (ew_or (et_not (et_val (ev_isi (n := "str") T.b_isinstance T.b_str (ev_var (i := 0) rfl ⟨hp, _, rfl, fun h => ?_, fun h => ?_⟩))))))
  · have e : isNameD d = false := by cases d <;> first | rfl | (simp [isB] at h; done)
    rw [e] at hP
    exact ⟨fun _ => ss_ret hRt.nx (ev_bl hP), fun z => by cases z⟩
  · have hs : ∃ z, d = .str z := by cases d <;> first | exact ⟨_, rfl⟩ | (simp [isB] at h; done)
    obtain ⟨z, rfl⟩ := hs
    have no : (decide (1 ≤ z.length) && decide (z.length ≤ 8)) = false → Pd (.bl false) := fun h => by
      have e : isNameD (.str z) = false := by simp [isNameD, isNameS, h]
      rw [e] at hP
      exact hP
    refine ew_or (et_eq hr.hu (ev_len T.b_len (ev_var (i := 0) rfl ⟨_, rfl, hz, ev_int ⟨rfl, rfl, fun h1 => ?_, fun h1 => ?_⟩⟩)))
    · refine ⟨fun _ => ss_ret hRt.nx (ev_bl (no ?_)), fun z => by cases z⟩
      have : ¬ 1 ≤ z.length := by simp [Dt.py, PyData.eqv] at h1; omega
      simp [this]
    · refine ew_or1 (et_cmp c_gt (ev_len T.b_len (ev_var (i := 0) rfl ⟨_, rfl, hz, ev_int ⟨_, rfl, fun h2 => ?_, fun h2 => ?_⟩⟩)))
      · refine ss_ret hRt.nx (ev_bl (no ?_))
        have : ¬ z.length ≤ 8 := by simp at h2; omega
        simp [this]
      · have h3 : 1 ≤ z.length ∧ z.length ≤ 8 := by simp [Dt.py, PyData.eqv] at h1; simp at h2; omega
        refine ss_nil nx_rest (ss_ret hRt (ev_eq hr.hu ?_))
        refine ev_lcIf (own := [("_law_sign", 1)]) (.nm 1) sc_l_spelled.nd (blkOk_by (N := n_l_spelled) (sc := defScope s_l_spelled) (by decide +kernel)) (by decide) (fun _ _ _ _ _ => pgN sc_l_spelled.nd)
          (ei_str (ev_var (i := 0) rfl ⟨z, rfl, (fun d => match d with | .str y => !y.cps.toList.all small | _ => false), id, ?_, ?_, ?_⟩))
        · rw [DL.signs, List.length_map]; exact Nat.le_trans (by simpa [Str.length] using h3.2) (szb (n := 8) rfl)
        · rw [List.map_id]
          have ef : (DL.signs z).filter (fun d => match d with | .str y => !y.cps.toList.all small | _ => false) = (z.cps.toList.filter fun c => !small c).map fun c => .str (tx [c]) := by
            unfold DL.signs
            rw [List.filter_map]
            congr 1
            apply List.filter_congr
            intro c _
            simp
          refine ev_lst (evl_nil ⟨szb rfl, ?_, rfl, ?_⟩)
          · rw [ef, okD_lst]
            refine okAll_map fun c hc => ?_
            rw [okD_str]
            refine tx_ok fun c' hc' => ?_
            have hcz := (List.mem_filter.1 hc).1
            have hk' := hk z rfl
            unfold PyData.strOk at hk'
            have := Array.all_eq_true'.1 hk' c (by simpa using hcz)
            rw [List.mem_singleton.1 hc']
            simpa using this
          · have e1 : PyData.eqv (Dt.lst ((DL.signs z).filter (fun d => match d with | .str y => !y.cps.toList.all small | _ => false))).py (Dt.lst []).py = isNameD (.str z) := by
              rw [ef]
              show PyData.eqv (.list (pyAll _)) (.list (pyAll [])) = _
              rw [show pyAll [] = [] by simp [pyAll], eqv_nil, isNameD, isNameS, decide_eq_true h3.1, decide_eq_true h3.2, Bool.true_and, Bool.true_and]
              cases hf : z.cps.toList.filter (fun c => !small c) with
              | nil =>
                have : z.cps.toList.all small = true := List.all_eq_true.2 fun c hc => by
                  have := List.filter_eq_nil_iff.1 hf c hc
                  simpa using this
                rw [this]; simp [pyAll]
              | cons c l =>
                have hc : c ∈ z.cps.toList.filter (fun c => !small c) := by rw [hf]; exact List.mem_cons_self
                have : z.cps.toList.all small = false := by
                  rw [Bool.eq_false_iff]
                  intro h
                  have h1 := (List.mem_filter.1 hc)
                  have h2 := List.all_eq_true.1 h c h1.1
                  have h3 := h1.2
                  rw [h2] at h3
                  cases h3
                rw [this]; simp [pyAll]
            rw [e1]
            exact hP
        · intro d hd D
          obtain ⟨c, _, rfl⟩ := List.mem_map.1 hd
          refine ⟨_, rfl, fun s5 H5 C5 cl5 fp5 => et_notInSign (ev_var (i := 1) rfl (ev_str ⟨c, abc, rfl, rfl, ?_⟩)), fun _ s5 H5 C5 cl5 fp5 => ev_var (i := 1) rfl rfl⟩
          have : decide (c ∈ abc.cps.toList) = small c := by
            cases h : small c with
            | true => exact decide_eq_true (mem_abc.2 h)
            | false => exact decide_eq_false (fun q => by rw [mem_abc.1 q] at h; cases h)
          rw [this]
          simp
end
end K00
namespace K00
open PySem PySem.Spec L2 DL
/-! ### ascending lists of texts -/
theorem ltS_trans {a b c : Str} (h1 : ltS a b = true) (h2 : ltS b c = true) : ltS a c = true := decide_eq_true (List.lt_trans (of_decide_eq_true h1) (of_decide_eq_true h2))
theorem ltS_irrefl (a : Str) : ltS a a = false := decide_eq_false (List.lt_irrefl _)
theorem asc_pw : ∀ {ss : List Str}, asc ss = true → ss.Pairwise (fun a b => ltS a b = true)
  | [], _ => .nil
  | [x], _ => .cons (fun _ h => by cases h) .nil
  | x :: y :: l, h => by
    have h' : (ltS x y && asc (y :: l)) = true := h
    rw [Bool.and_eq_true] at h'
    have ih := asc_pw h'.2
    refine .cons (fun z hz => ?_) ih
    rcases List.mem_cons.1 hz with rfl | hz
    · exact h'.1
    · exact ltS_trans h'.1 (List.rel_of_pairwise_cons ih hz)
theorem pw_asc : ∀ {ss : List Str}, ss.Pairwise (fun a b => ltS a b = true) → asc ss = true
  | [], _ => rfl
  | [x], _ => rfl
  | x :: y :: l, h => by
    show (ltS x y && asc (y :: l)) = true
    rw [List.rel_of_pairwise_cons h List.mem_cons_self, pw_asc (List.Pairwise.of_cons h)]
    rfl
theorem same_list : ∀ {xs ys : List Str}, xs.Pairwise (fun a b => ltS a b = true) → ys.Pairwise (fun a b => ltS a b = true) → (∀ z, z ∈ xs ↔ z ∈ ys) → xs = ys
  | [], [], _, _, _ => rfl
  | [], y :: ys, _, _, h => absurd ((h y).2 List.mem_cons_self) (by simp)
  | x :: xs, [], _, _, h => absurd ((h x).1 List.mem_cons_self) (by simp)
  | x :: xs, y :: ys, h1, h2, h => by
    have exy : x = y := by
      rcases List.mem_cons.1 ((h x).1 List.mem_cons_self) with e | e
      · exact e
      · rcases List.mem_cons.1 ((h y).2 List.mem_cons_self) with e' | e'
        · exact e'.symm
        · have a := List.rel_of_pairwise_cons h2 e
          have b := List.rel_of_pairwise_cons h1 e'
          have := ltS_trans a b
          rw [ltS_irrefl] at this
          cases this
    subst exy
    have nx : ∀ {zs : List Str}, (x :: zs).Pairwise (fun a b => ltS a b = true) → x ∉ zs := fun {zs} hp hx => by
      have := List.rel_of_pairwise_cons hp hx
      rw [ltS_irrefl] at this
      cases this
    rw [same_list (List.Pairwise.of_cons h1) (List.Pairwise.of_cons h2) fun z => ?_]
    constructor
    · intro hz
      rcases List.mem_cons.1 ((h z).1 (List.mem_cons_of_mem _ hz)) with e | e
      · subst e; exact absurd hz (nx h1)
      · exact e
    · intro hz
      rcases List.mem_cons.1 ((h z).2 (List.mem_cons_of_mem _ hz)) with e | e
      · subst e; exact absurd hz (nx h2)
      · exact e
section
variable {P : Program} {w : World} {K : PySem.W.Frag} {mg : Str → Option Value} {base : Heap}
/-- the values of this law -/
def VK (d : Dt) : Prop := plainT d = true ∧ Sz d ∧ (∀ z, d = .str z → PyData.strOk z = true) ∧ ∀ ds, d = .tup ds → ds.length ≤ 60 ∧ ∀ x ∈ ds, plainT x = true ∧ Sz x ∧ okD 50 x = true
theorem VK.okv {d : Dt} (h : VK d) : OkV d := ⟨h.1, h.2.1, h.2.2.1⟩
theorem VK.kind {d : Dt} (h : VK d) : Kind d := ⟨h.1, h.2.1, fun ds e => ⟨Nat.le_trans (h.2.2.2 ds e).1 (by decide), fun x hx => ⟨((h.2.2.2 ds e).2 x hx).1, ((h.2.2.2 ds e).2 x hx).2.1⟩⟩⟩
theorem dn_l_is_set (T : Txt K mg) : DFn P w K mg base 2 "_law_is_set" ["_law_value"] (rPred isSetD VK) := by
  refine fn_at T.d_l_is_set sc_l_is_set rPred_len fun f cdv A outer s H hr F as Pd E hR hO hRt hNx => ?_
  obtain ⟨d, rfl, ⟨hp, hz, hk, ht⟩, hP⟩ := hR
  show SS _ F [.dat d, .un] _ E
  refine ss_if (EvW.t (ew_or (et_not (et_val (ev_isi (n := "tuple") T.b_isinstance T.b_tuple (ev_var (i := 0) rfl ⟨hp, _, rfl, fun h => ?_, fun h => ?_⟩))))))
  · have e : isSetD d = false := by cases d <;> first | rfl | (simp [isB] at h; done)
    rw [e] at hP
    exact ⟨fun _ => ss_ret hRt.nx (ev_bl hP), fun z => by cases z⟩
  · have hs : ∃ ds, d = .tup ds := by cases d <;> first | exact ⟨_, rfl⟩ | (simp [isB] at h; done)
    obtain ⟨ds, rfl⟩ := hs
    obtain ⟨hl, hx⟩ := ht ds rfl
    refine ew_or1 (et_ne hr.hu ?_)
    refine ev_lcIf (own := [("_law_name", 1)]) (.nm 1) sc_l_is_set.nd (blkOk_by (N := n_l_is_set) (sc := defScope s_l_is_set) (by decide +kernel)) (by decide) (fun _ _ _ _ _ => pgN sc_l_is_set.nd)
      (ei_tup (ev_var (i := 0) rfl ⟨ds, rfl, (fun d => !isNameD d), id, hz, ?_, fun x hxx D => ⟨_, rfl, fun s5 H5 C5 cl5 fp5 => ?_, fun _ s5 H5 C5 cl5 fp5 => ev_var (i := 1) rfl rfl⟩⟩))
    · rw [List.map_id]
      refine ev_lst (evl_nil ⟨szb rfl, ?_, rfl, fun h1 => ?_, fun h1 => ?_⟩)
      · rw [okD_lst]
        exact okAll_of fun x hxx => okD_mono (m := 50) (by decide) (hx x (List.mem_filter.1 hxx).1).2.2
      · have e : isSetD (.tup ds) = false := by
          have : ds.all isNameD = false := by
            rw [Bool.eq_false_iff]
            intro hall
            have : ds.filter (fun d => !isNameD d) = [] := List.filter_eq_nil_iff.2 fun x hxx => by
              have := List.all_eq_true.1 hall x hxx
              simp [this]
            rw [this] at h1
            simp [Dt.py, pyAll, PyData.eqv, PyData.eqvAll] at h1
          rw [isSetD, this, Bool.false_and]
        rw [e] at hP
        exact ss_ret hRt.nx (ev_bl hP)
      · have hall : ds.all isNameD = true := List.all_eq_true.2 fun x hxx => by
          have e2 : PyData.eqv (Dt.lst (ds.filter fun d => !isNameD d)).py (Dt.lst []).py = true := by simpa using h1
          have e3 : (pyAll (ds.filter fun d => !isNameD d)).isEmpty = true := by
            have : PyData.eqv (.list (pyAll (ds.filter fun d => !isNameD d))) (.list (pyAll [])) = true := by simpa [Dt.py] using e2
            rw [show pyAll [] = [] by simp [pyAll], eqv_nil] at this
            exact this
          cases hf : ds.filter (fun d => !isNameD d) with
          | nil =>
            have := List.filter_eq_nil_iff.1 hf x hxx
            simpa using this
          | cons y l => rw [hf] at e3; simp [pyAll] at e3
        have es := names_strs hall
        refine ss_nil nx_rest (ss_ret hRt (ev_eq hr.hu (ev_listOf T.b_list (ev_var (i := 0) rfl ⟨ds, rfl, ?_⟩))))
        refine ev_sortedSet T.b_sorted T.b_set (ev_var (i := 0) rfl ⟨_, by rw [← es], by rw [List.length_map]; omega, fun ys hpw hmem => ?_⟩)
        have okn : ∀ x : Str, isNameS x = true → okD 59 (.str x) = true := fun x hn => by
          rw [okD_str, tx_of x]
          refine tx_ok fun c hc => ?_
          unfold isNameS at hn
          rw [Bool.and_eq_true] at hn
          have := small_iff.1 (List.all_eq_true.1 hn.2 c hc)
          omega
        have nms : ∀ x ∈ ds.map strOf, isNameS x = true := fun x hxx => by
          obtain ⟨y, hy, rfl⟩ := List.mem_map.1 hxx
          have := List.all_eq_true.1 hall y hy
          cases y <;> first | (cases this; done) | exact this
        refine ⟨?_, ?_, ?_⟩
        · rw [okD_lst]
          exact okAll_of fun x hxx => okD_mono (m := 50) (by decide) (hx x hxx).2.2
        · rw [okD_lst]
          exact okAll_map fun x hxx => okn x (nms x ((hmem x).1 hxx))
        · have e : PyData.eqv (Dt.lst ds).py (Dt.lst (ys.map Dt.str)).py = isSetD (.tup ds) := by
            rw [isSetD, hall, Bool.true_and]
            show PyData.eqv (.list (pyAll ds)) (.list (pyAll (ys.map Dt.str))) = _
            rw [show pyAll ds = pyAll ((ds.map strOf).map Dt.str) by rw [← es], pyAll_strs, pyAll_strs]
            show PyData.eqvAll _ _ = _
            rw [eqv_strs]
            generalize (ds.map strOf) = ss at hmem
            cases ha : asc ss with
            | true => exact decide_eq_true (same_list (asc_pw ha) hpw fun z => (hmem z).symm)
            | false => exact decide_eq_false fun q => by rw [q, pw_asc hpw] at ha; cases ha
          rw [e]
          exact hP
    · exact et_not (et_val (ev_call (dn_spelled T) hr (eva_cons (ev_var (i := 1) rfl (eva_nil ⟨_, rfl, ⟨(hx x hxx).1, (hx x hxx).2.1, fun z e => by have := (hx x hxx).2.2; rw [e, okD_str] at this; exact this⟩, _, rfl, rfl⟩)))))
end
end K00
namespace K00
open PySem PySem.Spec L2 DL
section
variable {P : Program} {w : World} {K : PySem.W.Frag} {mg : Str → Option Value} {base : Heap}
/-! ### the drawn values -/
def rBounds : List Sl → (Dt → Prop) → Prop := fun as Pd => ∃ c : Int, as = [.mil, .dat (.int c)] ∧ ∀ ns : List Int, ns.length ≤ 10 → Pd (.lst (ns.map Dt.int))
theorem pw60 : CPw 10 60 := ⟨by decide +kernel, by decide +kernel⟩
theorem dn_bounds (T : Txt K mg) : DFn P w K mg base 2 "_law_bounds" ["_law_mill_here", "_law_cell"] rBounds := by
  refine fn_at T.d_l_bounds sc_l_bounds (by rintro as Pd ⟨d, rfl, _⟩; rfl) fun f cdv A outer s H hr F as Pd E hR hO hRt hNx => ?_
  obtain ⟨c, rfl, hP⟩ := hR
  show SS _ F [.mil, .dat (.int c), .un, .un] _ E
  refine ss_par2 (i := 2) (j := 3) sc_l_bounds.nd (ev_mod (ev_intof T.b_int (ev_var (i := 1) rfl ⟨_, rfl, ev_mul (ev_pow (ev_int (ev_int ⟨_, _, rfl, rfl, pw60, ?_⟩)))⟩)))
  refine ev_pow (ev_int (ev_int ⟨_, _, rfl, rfl, ⟨by decide +kernel, by decide +kernel⟩, _, _, rfl, rfl, by show _ < _; decide +kernel, _, _, rfl, rfl, by decide +kernel, ?_⟩))
  generalize c % (10 ^ (60 : Int).toNat * 10 ^ (30 : Int).toNat) = great
  refine ev_sub (ev_add (ev_pow (ev_int (ev_int ⟨_, _, rfl, rfl, pw60, ev_call (dn_grain T) hr (eva_mil (i := 0) rfl (eva_cons (ev_int (eva_nil ⟨_, rfl, by decide, by decide +kernel, fun r h0 h1 => ⟨_, rfl, trivial, ev_int ⟨_, _, rfl, rfl, ?_⟩⟩⟩))))⟩))))
  generalize 10 ^ (60 : Int).toNat + r - 2 = near
  refine ss_ret hRt (ev_lst (evl_cons (ev_var (i := 2) rfl (evl_cons (ev_sub (ev_int (ev_var (i := 2) rfl ⟨_, _, rfl, rfl, ?_⟩)))))))
  refine evl_cons (ev_var (i := 3) rfl (evl_cons (ev_sub (ev_int (ev_var (i := 3) rfl ⟨_, _, rfl, rfl, ?_⟩)))))
  refine evl_cons (ev_pow (ev_int (ev_int ⟨_, _, rfl, rfl, pw60, ?_⟩)))
  refine evl_cons (ev_sub (ev_int (ev_pow (ev_int (ev_int ⟨_, _, rfl, rfl, pw60, _, _, rfl, rfl, ?_⟩)))))
  refine evl_cons (ev_sub (ev_pow (ev_int (ev_int ⟨_, _, rfl, rfl, pw60, ev_int ⟨_, _, rfl, rfl, ?_⟩⟩))))
  refine evl_cons (ev_sub (ev_int (ev_pow (ev_int (ev_int ⟨_, _, rfl, rfl, pw60, _, _, rfl, rfl, ?_⟩)))))
  refine evl_cons (ev_int (evl_cons (ev_sub (ev_int (ev_int ⟨_, _, rfl, rfl, evl_nil ⟨szb rfl, ?_⟩⟩)))))
  exact hP [_, _, _, _, _, _, _, _, _, _] (Nat.le_refl _)
end
end K00
namespace K00
open PySem PySem.Spec L2 DL
section
variable {P : Program} {w : World} {K : PySem.W.Frag} {mg : Str → Option Value} {base : Heap}
def TxO (z : Str) : Prop := z.length ≤ 30 ∧ PyData.strOk z = true
def rTexts : List Sl → (Dt → Prop) → Prop := fun as Pd => as = [.mil] ∧ ∀ ss : List Str, ss.length ≤ 12 → (∀ z ∈ ss, TxO z) → Pd (.lst (ss.map Dt.str))
theorem dn_texts (T : Txt K mg) : DFn P w K mg base 3 "_law_texts" ["_law_mill_here"] rTexts := by
  refine fn_at T.d_l_texts sc_l_texts (by rintro as Pd ⟨rfl, _⟩; rfl) fun f cdv A outer s H hr F as Pd E hR hO hRt hNx => ?_
  obtain ⟨rfl, hP⟩ := hR
  show SS _ F [.mil, .un, .un, .un, .un, .un, .un] _ E
  refine ss_set (i := 1) sc_l_texts.nd (ev_lst (evl_nil ⟨szb rfl, ?_⟩))
  refine ss_for (.nm 2) (pgN sc_l_texts.nd) (ei_range1 T.b_range (ev_int ⟨_, rfl, by decide, by decide, ?_⟩))
  refine ⟨fun k Γ' => ∃ ss : List Str, Γ' = [.mil, .dat (.lst (ss.map Dt.str)), .un, .un, .un, .un, .un] ∧ ss.length = 3 * k ∧ ∀ z ∈ ss, TxO z, ⟨[], rfl, rfl, fun z h => by cases h⟩, ?_, ?_⟩
  · rintro k d Γ' hd ⟨ss, rfl, hl, hss⟩
    have hk : k < 4 := by
      rcases Nat.lt_or_ge k 4 with h | h
      · exact h
      · rw [List.getElem?_eq_none (by simpa [rangeD] using h)] at hd; cases hd
    refine ⟨_, rfl, fun Fl E' L => ?_⟩
    show SS _ Fl [.mil, .dat (.lst (ss.map Dt.str)), .dat d, .un, .un, .un, .un] _ E'
    refine ss_set (i := 3) sc_l_texts.nd (ev_join (ev_str ⟨_, rfl, ?_⟩))
    refine ev_lcRel (own := [("_law_at", 6)]) (.nm 6) (fun _ r => ∃ c : Nat, r = .str (tx [c]) ∧ small c = true) sc_l_texts.nd (blkOk_by (N := n_l_texts) (sc := defScope s_l_texts) (by decide +kernel)) (by decide) (fun _ _ _ _ _ => pgN sc_l_texts.nd)
      (ei_range1 T.b_range (ev_call (dn_grain T) hr (eva_mil (i := 0) rfl (eva_cons (ev_int (eva_nil ⟨_, rfl, by decide, by decide +kernel, fun k h0 h1 => ⟨_, rfl, by omega, by omega, ?_, fun rs hl hrs => ?_, ?_⟩⟩))))))
    · rw [rangeD, List.length_map, List.length_range]; exact Nat.le_trans (show k.toNat ≤ 11 by omega) (szb rfl)
    · have hrl : rs.length = k.toNat := by rw [hl]; simp [rangeD]
      obtain ⟨bs, eb, hb⟩ := letters_of (rs := rs) fun r hr' => by
        obtain ⟨i, hi⟩ := List.getElem?_of_mem hr'
        have hil : i < (rangeD 0 k.toNat).length := by rw [← hl]; exact (List.getElem?_eq_some_iff.1 hi).1
        exact hrs i _ r (List.getElem?_eq_getElem hil) hi
      have hbl : bs.length ≤ 10 := by
        have : rs.length = bs.length := by rw [eb]; simp
        omega
      refine ⟨bs.map fun c => tx [c], by rw [eb], ?_, ?_⟩
      · have e1 : ((bs.map fun c => tx [c]).map (·.length)).sum ≤ 10 := by
          have : ∀ l : List Nat, ((l.map fun c => tx [c]).map (·.length)).sum = l.length := fun l => by
            induction l with
            | nil => rfl
            | cons c l ih => rw [List.map_cons, List.map_cons, List.sum_cons, ih, List.length_cons, tx_len]; simp; omega
          rw [this]; exact hbl
        have e2 : (("" : Str)).length = 0 := by decide +kernel
        rw [e2, Nat.mul_zero]
        omega
      have ej : Txt.join ("" : Str) (bs.map fun c => tx [c]) = tx bs := join_tx bs
      rw [ej]
      show SS _ Fl [.mil, .dat (.lst (ss.map Dt.str)), .dat d, .dat (.str (tx bs)), .un, .un, .un] _ E'
      refine ss_set (i := 4) sc_l_texts.nd (ev_call (dn_grain T) hr (eva_mil (i := 0) rfl (eva_cons (ev_add (ev_len T.b_len (ev_var (i := 3) rfl ⟨_, rfl, tx_sz (by omega), ev_int ⟨_, rfl, trivial, eva_nil ⟨_, rfl, by omega, by rw [tx_len]; exact log_small (n := bs.length + 1) (by omega), fun spot hs0 hs1 => ?_⟩⟩⟩))))))
      obtain ⟨sp, rfl⟩ := Int.eq_ofNat_of_zero_le hs0
      refine ss_set (i := 5) sc_l_texts.nd (ev_call (dn_one_of T) hr (eva_mil (i := 0) rfl (eva_cons (ev_lst ?_))))
      refine evl_cst (ds := ?ds) ?h ?_
      case h => exact rfl
      refine ⟨szb rfl, eva_nil ⟨_, _, rfl, rfl, szb rfl, List.cons_ne_nil _ _, Nat.lt_of_lt_of_le (Nat.lt_succ_of_le (Nat.le_of_ble_eq_true (m := 12) rfl)) (by decide), fun x hx => ?_⟩⟩
      have hodd : ∃ c, x = .str (tx [c]) ∧ c < 0x110000 := by
        simp only [List.mem_cons, List.not_mem_nil, or_false] at hx
        rcases hx with rfl | rfl | rfl | rfl | rfl | rfl | rfl | rfl | rfl | rfl | rfl | rfl
        · exact ⟨65, rfl, by decide⟩
        · exact ⟨90, rfl, by decide⟩
        · exact ⟨55, rfl, by decide⟩
        · exact ⟨32, rfl, by decide⟩
        · exact ⟨95, rfl, by decide⟩
        · exact ⟨10, rfl, by decide⟩
        · exact ⟨64, rfl, by decide⟩
        · exact ⟨91, rfl, by decide⟩
        · exact ⟨96, rfl, by decide⟩
        · exact ⟨123, rfl, by decide⟩
        · exact ⟨58, rfl, by decide⟩
        · exact ⟨42, rfl, by decide⟩
      obtain ⟨o, rfl, ho⟩ := hodd
      have hb' : ∀ c ∈ bs, c < 0x110000 := fun c hc => by have := small_iff.1 (hb c hc); omega
      have tk : ∀ {l : List Nat}, l.length ≤ 30 → (∀ c ∈ l, c < 0x110000) → TxO (tx l) := fun h1 h2 => ⟨by rw [tx_len]; exact h1, tx_ok h2⟩
      have htw : ∀ (a b : List Nat), (∀ c ∈ a, c ∈ bs) → (∀ c ∈ b, c ∈ bs) → ∀ c ∈ (a ++ [o]) ++ b, c < 0x110000 := fun a b ha hb2 c hc => by
        simp only [List.mem_append, List.mem_singleton] at hc
        rcases hc with (hc | rfl) | hc
        · exact hb' c (ha c hc)
        · exact ho
        · exact hb' c (hb2 c hc)
      refine ss_set (i := 1) sc_l_texts.nd (ev_add (ev_var (i := 1) rfl (ev_lst (evl_cons (ev_var (i := 3) rfl ?_)))))
      refine evl_cons (ev_add (ev_add (ev_slice (ev_var (i := 3) rfl (ev_var (i := 4) rfl ⟨_, rfl, _, rfl, tx_sz (by omega), ev_var (i := 5) rfl ⟨_, rfl, ?_, ev_slice (ev_var (i := 3) rfl (ev_var (i := 4) rfl ⟨_, rfl, _, rfl, tx_sz (by omega), _, rfl, ?_, ?_⟩))⟩⟩)))))
      · rw [tx_cut_to, tx_app]; exact tx_sz (by simp; omega)
      · rw [tx_cut_to, tx_cut_from, tx_app, tx_app]; exact tx_sz (by simp; omega)
      refine evl_cons (ev_add (ev_add (ev_slice (ev_var (i := 3) rfl (ev_var (i := 4) rfl ⟨_, rfl, _, rfl, tx_sz (by omega), ev_var (i := 5) rfl ⟨_, rfl, ?_, ev_slice (ev_var (i := 3) rfl (ev_add (ev_var (i := 4) rfl (ev_int ⟨_, rfl, trivial, _, rfl, _, rfl, tx_sz (by omega), _, rfl, ?_, evl_nil ⟨szb rfl, _, rfl, ?_, ?_⟩⟩))))⟩⟩)))))
      · rw [tx_cut_to, tx_app]; exact tx_sz (by simp; omega)
      · rw [tx_cut_to, show ((sp : Nat) : Int) + 1 = ((sp + 1 : Nat) : Int) from rfl, tx_cut_from, tx_app, tx_app]; exact tx_sz (by simp; omega)
      · show _ ≤ _; simp only [List.length_append, List.length_map, List.length_cons, List.length_nil]; exact sz_small (by omega)
      · rw [tx_cut_to, tx_cut_from, show ((sp : Nat) : Int) + 1 = ((sp + 1 : Nat) : Int) from rfl, tx_cut_from, tx_app, tx_app, tx_app]
        show SS _ Fl [.mil, .dat (.lst (ss.map Dt.str ++ [Dt.str (tx bs), Dt.str (tx ((bs.take sp ++ [o]) ++ bs.drop sp)), Dt.str (tx ((bs.take sp ++ [o]) ++ bs.drop (sp + 1)))])), .dat d, .dat (.str (tx bs)), .dat (.int (sp : Nat)), .dat (.str (tx [o])), .un] _ E'
        refine ss_nilW (Γ' := [.mil, .dat (.lst (ss.map Dt.str ++ [Dt.str (tx bs), Dt.str (tx ((bs.take sp ++ [o]) ++ bs.drop sp)), Dt.str (tx ((bs.take sp ++ [o]) ++ bs.drop (sp + 1)))])), .un, .un, .un, .un, .un]) L.nx (wk_s (wk_s (wk_u (wk_u (wk_u (wk_u (wk_s wk_nil))))))) ⟨ss ++ [tx bs, tx ((bs.take sp ++ [o]) ++ bs.drop sp), tx ((bs.take sp ++ [o]) ++ bs.drop (sp + 1))], by rw [List.map_append]; rfl, by simp; omega, fun z hz => ?_⟩
        rcases List.mem_append.1 hz with hz | hz
        · exact hss z hz
        · simp only [List.mem_cons, List.not_mem_nil, or_false] at hz
          rcases hz with rfl | rfl | rfl
          · exact tk (by omega) hb'
          · exact tk (by simp; omega) (htw _ _ (fun c => List.mem_of_mem_take) (fun c => List.mem_of_mem_drop))
          · exact tk (by simp; omega) (htw _ _ (fun c => List.mem_of_mem_take) (fun c => List.mem_of_mem_drop))
    · intro d hd D
      refine ⟨_, rfl, fun s5 H5 C5 cl5 fp5 => ev_call (dn_letter T) hr (eva_mil (i := 0) rfl (eva_nil ⟨rfl, fun c h0 h1 => ⟨c, rfl, small_iff.2 ⟨h0, h1⟩⟩⟩))⟩
  · rintro Γ' ⟨ss, rfl, hl, hss⟩
    refine ss_ret hRt (ev_var (i := 1) rfl (hP ss (by rw [hl]; simp [rangeD]) hss))
end
end K00
namespace K00
open PySem PySem.Spec L2 DL
section
variable {P : Program} {w : World} {K : PySem.W.Frag} {mg : Str → Option Value} {base : Heap}
def rTuples : List Sl → (Dt → Prop) → Prop := fun as Pd => as = [.mil] ∧ ∀ ds : List Dt, ds.length ≤ 30 → (∀ d ∈ ds, VK d) → Pd (.lst ds)
/-- a value within a tuple -/
def VI (d : Dt) : Prop := plainT d = true ∧ Sz d ∧ okD 50 d = true
theorem VI.tup {ds : List Dt} (h : ∀ x ∈ ds, VI x) (hl : ds.length ≤ 60) : VK (.tup ds) := ⟨rfl, sz_small (by omega), (fun z e => by cases e), fun ds' e => by cases e; exact ⟨hl, h⟩⟩
theorem VK.lst {ds : List Dt} (hl : ds.length ≤ 60) : VK (.lst ds) := ⟨rfl, sz_small (by omega), (fun z e => by cases e), fun ds' e => by cases e⟩
theorem VK.dk {ks : List (Int ⊕ Str)} {ds : List Dt} : VK (.dk ks ds) := ⟨rfl, trivial, (fun z e => by cases e), fun ds' e => by cases e⟩
theorem VK.int {i : Int} : VK (.int i) := ⟨rfl, trivial, (fun z e => by cases e), fun ds' e => by cases e⟩
theorem VK.bl {i : Bool} : VK (.bl i) := ⟨rfl, trivial, (fun z e => by cases e), fun ds' e => by cases e⟩
theorem VK.non : VK .non := ⟨rfl, trivial, (fun z e => by cases e), fun ds' e => by cases e⟩
theorem VK.str {z : Str} (h1 : z.length ≤ 1000) (h2 : PyData.strOk z = true) : VK (.str z) := ⟨rfl, sz_small (by omega), (fun z e => by cases e; exact h2), fun ds' e => by cases e⟩
theorem isName_ok {a : Str} (h : isNameS a = true) : a.length ≤ 8 ∧ PyData.strOk a = true := by
  unfold isNameS at h
  simp only [Bool.and_eq_true, decide_eq_true_eq] at h
  refine ⟨h.1.2, ?_⟩
  rw [tx_of a]
  refine tx_ok fun c hc => ?_
  have := small_iff.1 (List.all_eq_true.1 h.2 c hc)
  omega
theorem VI.str {z : Str} (h1 : z.length ≤ 1000) (h2 : PyData.strOk z = true) : VI (.str z) := ⟨rfl, sz_small (by omega), by rw [okD_str]; exact h2⟩
theorem strOk_app {a b : Str} (ha : PyData.strOk a = true) (hb : PyData.strOk b = true) : PyData.strOk (a ++ b) = true := by
  rw [tx_of a] at ha ⊢
  rw [tx_of b] at hb ⊢
  rw [tx_app]
  refine tx_ok fun c hc => ?_
  unfold PyData.strOk at ha hb
  rw [← Array.all_toList] at ha hb
  rw [tx_codes] at ha hb
  rcases List.mem_append.1 hc with h | h
  · exact of_decide_eq_true (List.all_eq_true.1 ha c h)
  · exact of_decide_eq_true (List.all_eq_true.1 hb c h)
theorem app_len (a b : Str) : (a ++ b).length = a.length + b.length := by rw [tx_of a, tx_of b, tx_app, tx_len, tx_len, tx_len, List.length_append]
theorem dn_tuples (T : Txt K mg) : DFn P w K mg base 4 "_law_tuples" ["_law_mill_here"] rTuples := by
  refine fn_at T.d_l_tuples sc_l_tuples (by rintro as Pd ⟨rfl, _⟩; rfl) fun f cdv A outer s H hr F as Pd E hR hO hRt hNx => ?_
  obtain ⟨rfl, hP⟩ := hR
  show SS _ F [.mil, .un, .un, .un, .un, .un] _ E
  refine ss_unl [1, 2, 3] (pgU3 sc_l_tuples.nd) (ev_call (dn_many_names T) hr (eva_mil (i := 0) rfl (eva_cons (ev_int (eva_nil ⟨3, rfl, by decide, fun ns hl hnd hn => ?_⟩)))))
  obtain ⟨a, b, c, rfl⟩ : ∃ a b c, ns = [a, b, c] := by
    match ns, hl with
    | [a, b, c], _ => exact ⟨a, b, c, rfl⟩
  have ha := isName_ok (hn a (by simp))
  have hb := isName_ok (hn b (by simp))
  have hc := isName_ok (hn c (by simp))
  have va : VI (.str a) := .str (by omega) ha.2
  have vb : VI (.str b) := .str (by omega) hb.2
  have vc : VI (.str c) := .str (by omega) hc.2
  refine ⟨_, rfl, rfl, ?_⟩
  show SS _ F [.mil, .dat (.str a), .dat (.str b), .dat (.str c), .un, .un] _ E
  refine ss_set (i := 4) sc_l_tuples.nd (ev_lst (evl_cons (ev_tup (evl_cons (ev_var (i := 1) rfl (evl_cons (ev_var (i := 2) rfl (evl_cons (ev_var (i := 3) rfl (evl_nil (⟨szb rfl, evl_cons (ev_tup (evl_cons (ev_var (i := 1) rfl (evl_cons (ev_var (i := 3) rfl (evl_cons (ev_var (i := 2) rfl (evl_nil (⟨szb rfl, evl_cons (ev_tup (evl_cons (ev_var (i := 2) rfl (evl_cons (ev_var (i := 1) rfl (evl_cons (ev_var (i := 3) rfl (evl_nil (⟨szb rfl, evl_cons (ev_tup (evl_cons (ev_var (i := 2) rfl (evl_cons (ev_var (i := 3) rfl (evl_cons (ev_var (i := 1) rfl (evl_nil (⟨szb rfl, evl_cons (ev_tup (evl_cons (ev_var (i := 3) rfl (evl_cons (ev_var (i := 1) rfl (evl_cons (ev_var (i := 2) rfl (evl_nil (⟨szb rfl, evl_cons (ev_tup (evl_cons (ev_var (i := 3) rfl (evl_cons (ev_var (i := 2) rfl (evl_cons (ev_var (i := 1) rfl (evl_nil (⟨szb rfl, evl_nil (⟨szb rfl, ?_⟩)⟩)))))))))⟩)))))))))⟩)))))))))⟩)))))))))⟩)))))))))⟩)))))))))))
  refine ss_set (i := 4) sc_l_tuples.nd (ev_add (ev_var (i := 4) rfl (ev_lst (evl_cons (ev_tup (evl_cons (ev_var (i := 1) rfl (evl_cons (ev_var (i := 1) rfl (evl_nil (⟨szb rfl, evl_cons (ev_tup (evl_cons (ev_var (i := 1) rfl (evl_cons (ev_var (i := 2) rfl (evl_cons (ev_var (i := 2) rfl (evl_nil (⟨szb rfl, evl_cons (ev_tup (evl_cons (ev_var (i := 1) rfl (evl_nil (⟨szb rfl, evl_cons (ev_tup (evl_nil (⟨szb rfl, evl_cons (ev_tup (evl_cons (ev_var (i := 1) rfl (evl_cons (ev_var (i := 2) rfl (evl_nil (⟨szb rfl, evl_cons (ev_tup (evl_cons (ev_var (i := 2) rfl (evl_cons (ev_var (i := 1) rfl (evl_nil (⟨szb rfl, evl_cons (ev_lst (evl_cons (ev_var (i := 1) rfl (evl_nil (⟨szb rfl, evl_cons (ev_lst (evl_cons (ev_var (i := 1) rfl (evl_cons (ev_var (i := 2) rfl (evl_nil (⟨szb rfl, evl_cons (ev_dict1 (ev_var (i := 1) rfl (ev_var (i := 2) rfl (⟨_, rfl, rfl, evl_nil (⟨szb rfl, ⟨_, rfl, szb rfl, ?_⟩⟩)⟩))))⟩)))))))⟩)))))⟩)))))))⟩)))))))⟩)))⟩)))))⟩)))))))))⟩)))))))))))
  refine ss_set (i := 5) sc_l_tuples.nd (ev_call (dn_one_of T) hr (eva_mil (i := 0) rfl (eva_cons (ev_lst (evl_cons (ev_str (evl_cons (ev_str (evl_cons (ev_add (ev_add (ev_var (i := 1) rfl (ev_var (i := 2) rfl (⟨_, rfl, ?_, ev_str (⟨_, rfl, ?_, evl_cons (ev_non (evl_cons (ev_int (evl_cons (ev_bl (evl_cons (ev_tup (evl_cons (ev_var (i := 1) rfl (evl_nil (⟨szb rfl, evl_cons (ev_lst (evl_cons (ev_var (i := 1) rfl (evl_nil (⟨szb rfl, evl_cons (ev_add (ev_str (ev_var (i := 1) rfl (⟨_, rfl, ?_, evl_nil (⟨szb rfl, ?_⟩)⟩))))⟩)))))⟩)))))))))))⟩)⟩))))))))))))))
  · show (a ++ b).length ≤ _
    rw [app_len]; exact sz_small (by omega)
  · show (a ++ b ++ _).length ≤ _
    rw [app_len, app_len]; exact sz_small (show a.length + b.length + 8 ≤ 1000000 by omega)
  · show (_ ++ a).length ≤ _
    rw [app_len]; exact sz_small (show 1 + a.length ≤ 1000000 by omega)
  refine eva_nil ⟨_, _, rfl, rfl, szb rfl, List.cons_ne_nil _ _, Nat.lt_of_lt_of_le (Nat.lt_succ_of_le (Nat.le_of_ble_eq_true (m := 12) rfl)) (by decide), fun x hx => ?_⟩
  have vx : VI x := by
    simp only [List.mem_cons, List.not_mem_nil, or_false] at hx
    rcases hx with rfl | rfl | rfl | rfl | rfl | rfl | rfl | rfl | rfl
    · exact .str (by decide +kernel) (by decide +kernel)
    · exact .str (by decide +kernel) (by decide +kernel)
    · refine .str ?_ (strOk_app (strOk_app ha.2 hb.2) (by decide +kernel))
      rw [app_len, app_len]; show a.length + b.length + 8 ≤ 1000; omega
    · exact ⟨rfl, trivial, rfl⟩
    · exact ⟨rfl, trivial, rfl⟩
    · exact ⟨rfl, trivial, rfl⟩
    · exact ⟨rfl, szb rfl, by rw [okD_tup]; exact okAll_of fun y hy => by rw [List.mem_singleton.1 hy, okD_str]; exact ha.2⟩
    · exact ⟨rfl, szb rfl, by rw [okD_lst]; exact okAll_of fun y hy => by rw [List.mem_singleton.1 hy, okD_str]; exact ha.2⟩
    · refine .str ?_ (strOk_app (by decide +kernel) ha.2)
      rw [app_len]; show 1 + a.length ≤ 1000; omega
  refine ss_ret hRt (ev_add (ev_var (i := 4) rfl (ev_lst (evl_cons (ev_tup (evl_cons (ev_var (i := 5) rfl (evl_nil (⟨szb rfl, evl_cons (ev_add (ev_tupleOf T.b_tuple (ev_sortedS T.b_sorted (ev_lst (evl_cons (ev_var (i := 1) rfl (evl_cons (ev_var (i := 2) rfl (evl_nil (⟨szb rfl, [a, b], rfl, Nat.le_of_ble_eq_true rfl, fun ys hpm _ => ⟨_, rfl, ev_tup (evl_cons (ev_var (i := 5) rfl (evl_nil (⟨szb rfl, ⟨_, rfl, ?_, evl_cons (ev_tup (evl_cons (ev_var (i := 1) rfl (evl_cons (ev_tup (evl_cons (ev_var (i := 2) rfl (evl_nil (⟨szb rfl, evl_nil (⟨szb rfl, evl_cons (ev_tup (evl_cons (ev_tup (evl_nil (⟨szb rfl, evl_nil (⟨szb rfl, evl_nil (⟨szb rfl, ⟨_, rfl, ?_, hP _ (Nat.le_of_ble_eq_true rfl) fun d hd => ?_⟩⟩)⟩)⟩)))))⟩)⟩)))))))))⟩⟩))))⟩⟩))))))))))⟩)))))))))
  · show (_ ++ _ : List Dt).length ≤ _
    rw [List.length_append, List.length_map, hpm.length_eq]; exact szb rfl
  · exact szb rfl
  have two : ∀ {ds : List Dt}, (∀ x ∈ ds, x = .str a ∨ x = .str b ∨ x = .str c) → ∀ x ∈ ds, VI x := fun h x hx => by
    rcases h x hx with rfl | rfl | rfl
    · exact va
    · exact vb
    · exact vc
  simp only [List.mem_cons, List.mem_append, List.not_mem_nil, or_false] at hd
  rcases hd with (((rfl | rfl | rfl | rfl | rfl | rfl) | (rfl | rfl | rfl | rfl | rfl | rfl | rfl | rfl | rfl)) | (rfl | rfl | rfl | rfl))
  iterate 6 exact VI.tup (two fun x hx => by simp at hx; rcases hx with rfl | rfl | rfl <;> simp) (Nat.le_of_ble_eq_true rfl)
  · exact VI.tup (two fun x hx => by simp at hx; rw [hx]; simp) (Nat.le_of_ble_eq_true rfl)
  · exact VI.tup (two fun x hx => by simp at hx; rcases hx with rfl | rfl <;> simp) (Nat.le_of_ble_eq_true rfl)
  · exact VI.tup (two fun x hx => by simp at hx; rw [hx]; simp) (Nat.le_of_ble_eq_true rfl)
  · exact VI.tup (fun x hx => by cases hx) (Nat.le_of_ble_eq_true rfl)
  · exact VI.tup (two fun x hx => by simp at hx; rcases hx with rfl | rfl <;> simp) (Nat.le_of_ble_eq_true rfl)
  · exact VI.tup (two fun x hx => by simp at hx; rcases hx with rfl | rfl <;> simp) (Nat.le_of_ble_eq_true rfl)
  · exact .lst (Nat.le_of_ble_eq_true rfl)
  · exact .lst (Nat.le_of_ble_eq_true rfl)
  · exact .dk
  · exact VI.tup (fun y hy => by rw [List.mem_singleton.1 hy]; exact vx) (Nat.le_of_ble_eq_true rfl)
  · refine VI.tup (fun y hy => ?_) (by rw [List.length_append, List.length_map, hpm.length_eq]; exact Nat.le_of_ble_eq_true rfl)
    rcases List.mem_append.1 hy with hy | hy
    · obtain ⟨z, hz, rfl⟩ := List.mem_map.1 hy
      have := hpm.mem_iff.1 hz
      simp at this
      rcases this with rfl | rfl
      · exact va
      · exact vb
    · rw [List.mem_singleton.1 hy]; exact vx
  · refine VI.tup (fun y hy => ?_) (Nat.le_of_ble_eq_true rfl)
    simp only [List.mem_cons, List.not_mem_nil, or_false] at hy
    rcases hy with rfl | rfl
    · exact va
    · exact ⟨rfl, szb rfl, by rw [okD_tup]; exact okAll_of fun y hy => by rw [List.mem_singleton.1 hy, okD_str]; exact hb.2⟩
  · refine VI.tup (fun y hy => ?_) (Nat.le_of_ble_eq_true rfl)
    rw [List.mem_singleton.1 hy]
    exact ⟨rfl, szb rfl, rfl⟩
end
end K00
namespace K00
open PySem PySem.Spec L2 DL
section
variable {P : Program} {w : World} {K : PySem.W.Frag} {mg : Str → Option Value} {base : Heap}
def r3 (b1 b2 b3 : Bool) : Dt := .lst [.bl b1, .bl b2, .bl b3]
theorem rep3 (b1 b2 b3 : Bool) : isSeq (r3 b1 b2 b3) = true ∧ (r3 b1 b2 b3).simple = true ∧ (r3 b1 b2 b3).py.showable = true ∧ (r3 b1 b2 b3).py.hasDict = false ∧ (r3 b1 b2 b3).py.depth ≤ 60 ∧ (r3 b1 b2 b3).py.shown.length ≤ sizeLine ∧ PyData.strOk (r3 b1 b2 b3).py.shown = true := by
  cases b1 <;> cases b2 <;> cases b3 <;> exact ⟨by decide +kernel, by decide +kernel, by decide +kernel, by decide +kernel, by decide +kernel, by decide +kernel, by decide +kernel⟩
def rCell : List Sl → (Dt → Prop) → Prop := fun as Pd => ∃ (ns : List Int) (k : Nat), as = [.dat (.flst (ns.map Dt.int)), .dat (.int (k : Int))] ∧ k < 1000 ∧ Pd (.bl true)
theorem dn_cell (T : Txt K mg) : DFn P w K mg base 5 "_law_cell_right" ["_law_script", "_law_at"] rCell := by
  refine fn_at T.d_l_cell_right sc_l_cell_right (by rintro as Pd ⟨_, _, rfl, _⟩; rfl) fun f cdv A outer s H hr F as Pd E hR hO hRt hNx => ?_
  obtain ⟨ns, k, rfl, hk, hP⟩ := hR
  show SS _ F [.dat (.flst (ns.map Dt.int)), .dat (.int k), .un, .un, .un, .un, .un, .un] _ E
  refine ss_parN (i := 2) (j := 3) sc_l_cell_right.nd (en_call (dn_mill T.d_l_mill T) hr (eva_cons (ev_var (i := 0) rfl (eva_cons (ev_var (i := 1) rfl (eva_nil ⟨ns, k, rfl, hk, fun a b ha hb p hp h0 => ?_⟩))))))
  refine ev_add (ev_mulS (ev_int (ev_var (i := 1) rfl ⟨_, _, rfl, rfl, .inl ⟨by decide, by decide⟩, ev_int ⟨_, rfl, trivial, ?_⟩⟩)))
  refine ss_toMil (i := 2) rfl ha hb ?_
  have hRt1 := RtOk.mil (F := F.add p) (p := p) (.inr rfl) (hRt.add h0)
  revert hRt1
  generalize Fc.mk _ _ _ _ = F'
  intro hRt1
  show SS _ F' [.dat (.flst (ns.map Dt.int)), .dat (.int k), .mil, .dat (.int (29 * (k : Int) + 3)), .un, .un, .un, .un] _ E
  refine ss_ifJ (fun Γ' => ∃ c, Γ' = [.dat (.flst (ns.map Dt.int)), .dat (.int k), .mil, .dat (.int c), .un, .un, .un, .un]) (et_cmp c_lt (ev_var (i := 1) rfl (ev_len T.b_len (ev_var (i := 0) rfl ⟨_, rfl, trivial, _, rfl, fun E1 hR1 hN1 => ⟨fun h => ?_, fun _ => ss_nil hN1 ⟨_, rfl⟩⟩⟩)))) ?_
  · have hk2 : k < ns.length := by simpa using h
    refine ss_set (i := 3) sc_l_cell_right.nd (ev_ix (ev_var (i := 0) rfl (ev_var (i := 1) rfl ⟨.int ns[k], ?_, trivial, ss_nil hN1 ⟨_, rfl⟩⟩)))
    show L2.atI _ _ = _
    unfold L2.atI ixN
    rw [if_pos (Int.natCast_nonneg k), if_pos (by simpa using hk2)]
    simp [hk2]
  rintro _ ⟨c, rfl⟩
  generalize Dt.flst (ns.map Dt.int) = d0
  generalize Dt.int (k : Int) = d1
  refine ss_set (i := 4) sc_l_cell_right.nd (ev_add (ev_add (ev_call (dn_bounds T) hr (eva_mil (i := 2) rfl (eva_cons (ev_var (i := 3) rfl (eva_nil ⟨c, rfl, fun is hil => ?_⟩)))))))
  refine ev_call (dn_texts T) hr (eva_mil (i := 2) rfl (eva_nil ⟨rfl, fun ss hsl hss => ⟨_, rfl, ?_, ?_⟩⟩))
  · show (_ ++ _ : List Dt).length ≤ _
    rw [List.length_append, List.length_map, List.length_map]; exact sz_small (by omega)
  refine ev_call (dn_tuples T) hr (eva_mil (i := 2) rfl (eva_nil ⟨rfl, fun ds hdl hds => ⟨_, rfl, ?_, ?_⟩⟩))
  · show (_ ++ _ ++ _ : List Dt).length ≤ _
    rw [List.length_append, List.length_append, List.length_map, List.length_map]; exact sz_small (by omega)
  have hv : ∀ d ∈ is.map Dt.int ++ ss.map Dt.str ++ ds, VK d := fun d hd => by
    rcases List.mem_append.1 hd with hd | hd
    · rcases List.mem_append.1 hd with hd | hd
      · obtain ⟨i, _, rfl⟩ := List.mem_map.1 hd; exact .int
      · obtain ⟨z, hz, rfl⟩ := List.mem_map.1 hd
        have := hss z hz
        exact .str (Nat.le_trans this.1 (by decide)) this.2
    · exact hds d hd
  have hvl : (is.map Dt.int ++ ss.map Dt.str ++ ds).length ≤ 100 := by
    rw [List.length_append, List.length_append, List.length_map, List.length_map]; omega
  revert hv hvl
  generalize is.map Dt.int ++ ss.map Dt.str ++ ds = vs0
  intro hv hvl
  show SS _ F' [.dat d0, .dat d1, .mil, .dat (.int c), .dat (.lst vs0), .un, .un, .un] _ E
  refine ss_set (i := 4) sc_l_cell_right.nd (ev_add (ev_var (i := 4) rfl (ev_lst ?_)))
  refine evl_lit 5 (ds := [.bl true, .bl false, .non, .str "1", .lst [], .dk [] [], .tup [.lst []], .tup [.int 0], .tup [.non], .lst [.int 1], .dk [.inr "a"] [.int 1], .str "abcdefgh", .str "abcdefghi"]) ?h ?_
  case h => exact rfl
  refine ⟨szb rfl, _, rfl, ?_, ?_⟩
  · show (_ ++ _ : List Dt).length ≤ _
    rw [List.length_append]; exact sz_small (by simp only [List.length_cons, List.length_nil]; omega)
  have hw : ∀ d ∈ vs0 ++ [.bl true, .bl false, .non, .str "1", .lst [], .dk [] [], .tup [.lst []], .tup [.int 0], .tup [.non], .lst [.int 1], .dk [.inr "a"] [.int 1], .str "abcdefgh", .str "abcdefghi"], VK d := fun d hd => by
    rcases List.mem_append.1 hd with hd | hd
    · exact hv d hd
    · simp only [List.mem_cons, List.not_mem_nil, or_false] at hd
      have h0 : VI (.lst []) := ⟨rfl, szb rfl, rfl⟩
      rcases hd with rfl | rfl | rfl | rfl | rfl | rfl | rfl | rfl | rfl | rfl | rfl | rfl | rfl
      · exact .bl
      · exact .bl
      · exact .non
      · exact .str (by decide +kernel) (by decide +kernel)
      · exact .lst (by decide)
      · exact .dk
      · exact VI.tup (fun y hy => by rw [List.mem_singleton.1 hy]; exact h0) (by decide)
      · exact VI.tup (fun y hy => by rw [List.mem_singleton.1 hy]; exact ⟨rfl, trivial, rfl⟩) (by decide)
      · exact VI.tup (fun y hy => by rw [List.mem_singleton.1 hy]; exact ⟨rfl, trivial, rfl⟩) (by decide)
      · exact .lst (by decide)
      · exact .dk
      · exact .str (by decide +kernel) (by decide +kernel)
      · exact .str (by decide +kernel) (by decide +kernel)
  revert hw
  generalize vs0 ++ [.bl true, .bl false, .non, .str "1", .lst [], .dk [] [], .tup [.lst []], .tup [.int 0], .tup [.non], .lst [.int 1], .dk [.inr "a"] [.int 1], .str "abcdefgh", .str "abcdefghi"] = vs
  intro hw
  show SS _ F' [.dat d0, .dat d1, .mil, .dat (.int c), .dat (.lst vs), .un, .un, .un] _ E
  refine ss_for (.nm 5) (pgN sc_l_cell_right.nd) (ei_range1 T.b_range (ev_int ⟨_, rfl, by decide, by decide, ?_⟩))
  refine ⟨fun _ Γ' => Γ' = [.dat d0, .dat d1, .mil, .dat (.int c), .dat (.lst vs), .un, .un, .un], rfl, ?_, ?_⟩
  · rintro k dk Γ' hd rfl
    refine ⟨_, rfl, fun Fl E' L => ?_⟩
    show SS _ Fl [.dat d0, .dat d1, .mil, .dat (.int c), .dat (.lst vs), .dat dk, .un, .un] _ E'
    refine ss_for (.nm 6) (pgN sc_l_cell_right.nd) (ei_lst (ev_var (i := 4) rfl ⟨vs, .inl rfl, ?_⟩))
    refine ⟨fun _ Γ' => Γ' = [.dat d0, .dat d1, .mil, .dat (.int c), .dat (.lst vs), .dat dk, .un, .un], rfl, ?_, ?_⟩
    · rintro k2 d Γ' hd2 rfl
      have hk := hw d (List.mem_of_getElem? hd2)
      refine ⟨_, rfl, fun Fl2 E2 L2 => ?_⟩
      show SS _ Fl2 [.dat d0, .dat d1, .mil, .dat (.int c), .dat (.lst vs), .dat dk, .dat d, .un] _ E2
      refine ss_set (i := 7) sc_l_cell_right.nd (ev_lst (evl_cons (ev_call (dn_is_integer T) hr (eva_cons (ev_var (i := 6) rfl (eva_nil ⟨d, rfl, hk.1, ?_⟩))))))
      refine evl_cons (ev_call (dn_is_name T) hr (eva_cons (ev_var (i := 6) rfl (eva_nil ⟨d, rfl, ⟨hk.1, hk.2.1⟩, ?_⟩))))
      refine evl_cons (ev_call (dn_is_set T) hr (eva_cons (ev_var (i := 6) rfl (eva_nil ⟨d, rfl, hk.kind, evl_nil ⟨szb rfl, ?_⟩⟩))))
      have h3 := rep3 (isIntD d) (isNameD d) (isSetD d)
      show SS _ Fl2 [.dat d0, .dat d1, .mil, .dat (.int c), .dat (.lst vs), .dat dk, .dat d, .dat (r3 (isIntD d) (isNameD d) (isSetD d))] _ E2
      refine ss_if (et_ne hr.room.units (ev_repr T.b_repr hr.gd hr.room.units (ev_var (i := 7) rfl ⟨h3.1, h3.2.1, h3.2.2.1, h3.2.2.2.1, h3.2.2.2.2.1, h3.2.2.2.2.2.1, ?_⟩)))
      refine ev_repr T.b_repr hr.gd hr.room.units (ev_lst (evl_cons (ev_call (dn_is_short T) hr (eva_cons (ev_var (i := 6) rfl (eva_nil ⟨d, rfl, hk.1, ?_⟩))))))
      refine evl_cons (ev_call (dn_spelled T) hr (eva_cons (ev_var (i := 6) rfl (eva_nil ⟨d, rfl, hk.okv, ?_⟩))))
      refine evl_cons (ev_call (dn_l_is_set T) hr (eva_cons (ev_var (i := 6) rfl (eva_nil ⟨d, rfl, hk, evl_nil ⟨szb rfl, ?_⟩⟩))))
      refine ⟨h3.1, h3.2.1, h3.2.2.1, h3.2.2.2.1, h3.2.2.2.2.1, h3.2.2.2.2.2.1, ?_, ?_, ?_⟩
      · rw [okD_str]; exact h3.2.2.2.2.2.2
      · rw [okD_str]; exact h3.2.2.2.2.2.2
      · have e : (!PyData.eqv (Dt.str (r3 (isIntD d) (isNameD d) (isSetD d)).py.shown).py (Dt.str (r3 (isIntD d) (isNameD d) (isSetD d)).py.shown).py) = false := by
          simp [Dt.py, PyData.eqv]
        refine ⟨fun z => (by have q := z.symm.trans e; cases q), fun _ => ?_⟩
        refine ss_nil nx_rest (ss_nilW (Γ' := [.dat d0, .dat d1, .mil, .dat (.int c), .dat (.lst vs), .dat dk, .un, .un]) L2.nx (wk_s (wk_s (wk_s (wk_s (wk_s (wk_s (wk_u (wk_u wk_nil)))))))) rfl)
    · rintro Γ' rfl
      exact ss_nilW (Γ' := [.dat d0, .dat d1, .mil, .dat (.int c), .dat (.lst vs), .un, .un, .un]) L.nx (wk_s (wk_s (wk_s (wk_s (wk_s (wk_u (wk_s (wk_s wk_nil)))))))) rfl
  · rintro Γ' rfl
    exact ss_ret hRt1 (ev_bl hP)
def rLaw : List Sl → (Dt → Prop) → Prop := fun as Pd => ∃ ns : List Int, as = [.dat (.flst (ns.map Dt.int))] ∧ ns.length ≤ 63 ∧ Pd (.bl true)
theorem rLaw_ok (ns : List Int) (h : ns.length ≤ 63) : rLaw [.dat (.flst (ns.map Dt.int))] fun d => d = .bl true := ⟨ns, rfl, h, rfl⟩
theorem law_g (T : Txt K mg) {f : Addr} {fd : FuncData} (Fn : Fun K "law" "law" s_law f fd) : FnG P w K mg base 6 f fd ["_law_script"] (spD K rLaw) := by
  refine fn_g Fn sc_law (by rintro as Pd ⟨_, rfl, _⟩; rfl) fun cdv A outer s H hr F as Pd E hR hO hRt hNx => ?_
  obtain ⟨ns, rfl, hl, hP⟩ := hR
  obtain ⟨t, ht⟩ := T.c_MAX_LETTERS
  show SS _ F [.dat (.flst (ns.map Dt.int)), .un] _ E
  refine ss_if (et_ne hr.room.units (ev_gint ht (ev_int ⟨rfl, rfl, ?_⟩)))
  refine ⟨fun z => by simp [Dt.py, PyData.eqv] at z, fun _ => ss_nil nx_rest ?_⟩
  refine ss_for (.nm 1) (pgN sc_law.nd) (ei_range1 T.b_range (ev_max2 T.b_max (evl_cons (ev_int (evl_cons (ev_min2 T.b_min (evl_cons (ev_int (evl_cons (ev_len T.b_len (ev_var (i := 0) rfl ⟨_, rfl, trivial, evl_nil ⟨_, _, rfl, evl_nil ⟨_, _, rfl, ?_⟩⟩⟩)))))))))))
  rw [List.length_map]
  generalize hm : (if ((ns.length : Nat) : Int) < 8 then ((ns.length : Nat) : Int) else 8) = m
  generalize hn : (if m > 1 then m else 1) = n
  have hn8 : n ≤ 8 := by split at hm <;> split at hn <;> omega
  have hn0 : 0 ≤ n := by split at hn <;> omega
  refine ⟨n, rfl, by omega, by omega, ?_⟩
  refine ⟨fun _ Γ' => Γ' = [.dat (.flst (ns.map Dt.int)), .un], rfl, ?_, ?_⟩
  · rintro k dk Γ' hd rfl
    obtain ⟨hk, hdk⟩ := range_at hd
    subst hdk
    refine ⟨_, rfl, fun Fl E' L => ?_⟩
    show SS _ Fl [.dat (.flst (ns.map Dt.int)), .dat (.int (k : Int))] _ E'
    refine ss_if (et_not (et_val (ev_call (dn_cell T) hr (eva_cons (ev_var (i := 0) rfl (eva_cons (ev_var (i := 1) rfl (eva_nil ⟨ns, k, rfl, by omega, true, rfl, ?_, ?_⟩))))))))
    · intro z; cases z
    · exact fun _ => ss_nil nx_rest (ss_nilW (Γ' := [.dat (.flst (ns.map Dt.int)), .un]) L.nx (wk_s (wk_u wk_nil)) rfl)
  · rintro Γ' rfl
    exact ss_ret hRt (ev_bl hP)
end
end K00
namespace K00
open PySem PySem.Spec L2 DL
theorem all_mk {l : PySem.W.OpenLaw} {w : World} {K : PySem.W.Frag} {h : Heap} {mg : Str → Option Value} {fa : Addr} (X : K.In h) (G : h.Ns mainGlobals mg) (hfa : mg "law" = some (.ref fa))
    {f0 : Addr} {od0 an0 : Option Addr} {sl0 : Array (Option Value)} {oc0 kV0 dc0 pm0 cd0 ct0 : Value} {f1 : Addr} {od1 an1 : Option Addr} {sl1 : Array (Option Value)} {oc1 kV1 dc1 pm1 cd1 ct1 : Value} {f2 : Addr} {od2 an2 : Option Addr} {sl2 : Array (Option Value)} {oc2 kV2 dc2 pm2 cd2 ct2 : Value} {f3 : Addr} {od3 an3 : Option Addr} {sl3 : Array (Option Value)} {oc3 kV3 dc3 pm3 cd3 ct3 : Value} {f4 : Addr} {od4 an4 : Option Addr} {sl4 : Array (Option Value)} {oc4 kV4 dc4 pm4 cd4 ct4 : Value} {f5 : Addr} {od5 an5 : Option Addr} {sl5 : Array (Option Value)} {oc5 kV5 dc5 pm5 cd5 ct5 : Value} {f6 : Addr} {od6 an6 : Option Addr} {sl6 : Array (Option Value)} {oc6 kV6 dc6 pm6 cd6 ct6 : Value} {f7 : Addr} {od7 an7 : Option Addr} {sl7 : Array (Option Value)} {oc7 kV7 dc7 pm7 cd7 ct7 : Value} {f8 : Addr} {od8 an8 : Option Addr} {sl8 : Array (Option Value)} {oc8 kV8 dc8 pm8 cd8 ct8 : Value} {f9 : Addr} {od9 an9 : Option Addr} {sl9 : Array (Option Value)} {oc9 kV9 dc9 pm9 cd9 ct9 : Value} {f10 : Addr} {od10 an10 : Option Addr} {sl10 : Array (Option Value)} {oc10 kV10 dc10 pm10 cd10 ct10 : Value} {f11 : Addr} {od11 an11 : Option Addr} {sl11 : Array (Option Value)} {oc11 kV11 dc11 pm11 cd11 ct11 : Value} {f12 : Addr} {od12 an12 : Option Addr} {sl12 : Array (Option Value)} {oc12 kV12 dc12 pm12 cd12 ct12 : Value} {f13 : Addr} {od13 an13 : Option Addr} {sl13 : Array (Option Value)} {oc13 kV13 dc13 pm13 cd13 ct13 : Value} {f14 : Addr} {od14 an14 : Option Addr} {sl14 : Array (Option Value)} {oc14 kV14 dc14 pm14 cd14 ct14 : Value} {f15 : Addr} {od15 an15 : Option Addr} {sl15 : Array (Option Value)} {oc15 kV15 dc15 pm15 cd15 ct15 : Value} {f16 : Addr} {od16 an16 : Option Addr} {sl16 : Array (Option Value)} {oc16 kV16 dc16 pm16 cd16 ct16 : Value} {f17 : Addr} {od17 an17 : Option Addr} {sl17 : Array (Option Value)} {oc17 kV17 dc17 pm17 cd17 ct17 : Value} {t_MAX_LETTERS : Tok} {t_GREATEST : Tok}
    (a0 : PySem.W.nsIn K mainGlobals "is_integer" = some (some (.ref f0))) (l0 : K.lookup f0 = some ⟨oc0, od0, .func (PySem.W.fnOf "is_integer" "is_integer" (defArgs s_is_integer) (defBody s_is_integer) (defScope s_is_integer) .none kV0 dc0 pm0 an0 cd0 ct0), sl0⟩) (c0 : PySem.W.codeIn K cd0 "is_integer" = true) (k0 : PySem.W.keepIn K (.ref f0) = true)
    (a1 : PySem.W.nsIn K mainGlobals "is_name" = some (some (.ref f1))) (l1 : K.lookup f1 = some ⟨oc1, od1, .func (PySem.W.fnOf "is_name" "is_name" (defArgs s_is_name) (defBody s_is_name) (defScope s_is_name) .none kV1 dc1 pm1 an1 cd1 ct1), sl1⟩) (c1 : PySem.W.codeIn K cd1 "is_name" = true) (k1 : PySem.W.keepIn K (.ref f1) = true)
    (a2 : PySem.W.nsIn K mainGlobals "are_ascending" = some (some (.ref f2))) (l2 : K.lookup f2 = some ⟨oc2, od2, .func (PySem.W.fnOf "are_ascending" "are_ascending" (defArgs s_are_ascending) (defBody s_are_ascending) (defScope s_are_ascending) .none kV2 dc2 pm2 an2 cd2 ct2), sl2⟩) (c2 : PySem.W.codeIn K cd2 "are_ascending" = true) (k2 : PySem.W.keepIn K (.ref f2) = true)
    (a3 : PySem.W.nsIn K mainGlobals "is_set" = some (some (.ref f3))) (l3 : K.lookup f3 = some ⟨oc3, od3, .func (PySem.W.fnOf "is_set" "is_set" (defArgs s_is_set) (defBody s_is_set) (defScope s_is_set) .none kV3 dc3 pm3 an3 cd3 ct3), sl3⟩) (c3 : PySem.W.codeIn K cd3 "is_set" = true) (k3 : PySem.W.keepIn K (.ref f3) = true)
    (a4 : PySem.W.nsIn K mainGlobals "_law_mill" = some (some (.ref f4))) (l4 : K.lookup f4 = some ⟨oc4, od4, .func (PySem.W.fnOf "_law_mill" "_law_mill" (defArgs s_l_mill) (defBody s_l_mill) (defScope s_l_mill) .none kV4 dc4 pm4 an4 cd4 ct4), sl4⟩) (c4 : PySem.W.codeIn K cd4 "_law_mill" = true) (k4 : PySem.W.keepIn K (.ref f4) = true)
    (a5 : PySem.W.nsIn K mainGlobals "_law_grain" = some (some (.ref f5))) (l5 : K.lookup f5 = some ⟨oc5, od5, .func (PySem.W.fnOf "_law_grain" "_law_grain" (defArgs s_l_grain) (defBody s_l_grain) (defScope s_l_grain) .none kV5 dc5 pm5 an5 cd5 ct5), sl5⟩) (c5 : PySem.W.codeIn K cd5 "_law_grain" = true) (k5 : PySem.W.keepIn K (.ref f5) = true)
    (a6 : PySem.W.nsIn K mainGlobals "_law_one_of" = some (some (.ref f6))) (l6 : K.lookup f6 = some ⟨oc6, od6, .func (PySem.W.fnOf "_law_one_of" "_law_one_of" (defArgs s_l_one_of) (defBody s_l_one_of) (defScope s_l_one_of) .none kV6 dc6 pm6 an6 cd6 ct6), sl6⟩) (c6 : PySem.W.codeIn K cd6 "_law_one_of" = true) (k6 : PySem.W.keepIn K (.ref f6) = true)
    (a7 : PySem.W.nsIn K mainGlobals "_law_order" = some (some (.ref f7))) (l7 : K.lookup f7 = some ⟨oc7, od7, .func (PySem.W.fnOf "_law_order" "_law_order" (defArgs s_l_order) (defBody s_l_order) (defScope s_l_order) .none kV7 dc7 pm7 an7 cd7 ct7), sl7⟩) (c7 : PySem.W.codeIn K cd7 "_law_order" = true) (k7 : PySem.W.keepIn K (.ref f7) = true)
    (a8 : PySem.W.nsIn K mainGlobals "_law_letter" = some (some (.ref f8))) (l8 : K.lookup f8 = some ⟨oc8, od8, .func (PySem.W.fnOf "_law_letter" "_law_letter" (defArgs s_l_letter) (defBody s_l_letter) (defScope s_l_letter) .none kV8 dc8 pm8 an8 cd8 ct8), sl8⟩) (c8 : PySem.W.codeIn K cd8 "_law_letter" = true) (k8 : PySem.W.keepIn K (.ref f8) = true)
    (a9 : PySem.W.nsIn K mainGlobals "_law_many_names" = some (some (.ref f9))) (l9 : K.lookup f9 = some ⟨oc9, od9, .func (PySem.W.fnOf "_law_many_names" "_law_many_names" (defArgs s_l_many_names) (defBody s_l_many_names) (defScope s_l_many_names) .none kV9 dc9 pm9 an9 cd9 ct9), sl9⟩) (c9 : PySem.W.codeIn K cd9 "_law_many_names" = true) (k9 : PySem.W.keepIn K (.ref f9) = true)
    (a10 : PySem.W.nsIn K mainGlobals "_law_spelled" = some (some (.ref f10))) (l10 : K.lookup f10 = some ⟨oc10, od10, .func (PySem.W.fnOf "_law_spelled" "_law_spelled" (defArgs s_l_spelled) (defBody s_l_spelled) (defScope s_l_spelled) .none kV10 dc10 pm10 an10 cd10 ct10), sl10⟩) (c10 : PySem.W.codeIn K cd10 "_law_spelled" = true) (k10 : PySem.W.keepIn K (.ref f10) = true)
    (a11 : PySem.W.nsIn K mainGlobals "_law_is_set" = some (some (.ref f11))) (l11 : K.lookup f11 = some ⟨oc11, od11, .func (PySem.W.fnOf "_law_is_set" "_law_is_set" (defArgs s_l_is_set) (defBody s_l_is_set) (defScope s_l_is_set) .none kV11 dc11 pm11 an11 cd11 ct11), sl11⟩) (c11 : PySem.W.codeIn K cd11 "_law_is_set" = true) (k11 : PySem.W.keepIn K (.ref f11) = true)
    (a12 : PySem.W.nsIn K mainGlobals "_law_is_short" = some (some (.ref f12))) (l12 : K.lookup f12 = some ⟨oc12, od12, .func (PySem.W.fnOf "_law_is_short" "_law_is_short" (defArgs s_l_is_short) (defBody s_l_is_short) (defScope s_l_is_short) .none kV12 dc12 pm12 an12 cd12 ct12), sl12⟩) (c12 : PySem.W.codeIn K cd12 "_law_is_short" = true) (k12 : PySem.W.keepIn K (.ref f12) = true)
    (a13 : PySem.W.nsIn K mainGlobals "_law_bounds" = some (some (.ref f13))) (l13 : K.lookup f13 = some ⟨oc13, od13, .func (PySem.W.fnOf "_law_bounds" "_law_bounds" (defArgs s_l_bounds) (defBody s_l_bounds) (defScope s_l_bounds) .none kV13 dc13 pm13 an13 cd13 ct13), sl13⟩) (c13 : PySem.W.codeIn K cd13 "_law_bounds" = true) (k13 : PySem.W.keepIn K (.ref f13) = true)
    (a14 : PySem.W.nsIn K mainGlobals "_law_texts" = some (some (.ref f14))) (l14 : K.lookup f14 = some ⟨oc14, od14, .func (PySem.W.fnOf "_law_texts" "_law_texts" (defArgs s_l_texts) (defBody s_l_texts) (defScope s_l_texts) .none kV14 dc14 pm14 an14 cd14 ct14), sl14⟩) (c14 : PySem.W.codeIn K cd14 "_law_texts" = true) (k14 : PySem.W.keepIn K (.ref f14) = true)
    (a15 : PySem.W.nsIn K mainGlobals "_law_tuples" = some (some (.ref f15))) (l15 : K.lookup f15 = some ⟨oc15, od15, .func (PySem.W.fnOf "_law_tuples" "_law_tuples" (defArgs s_l_tuples) (defBody s_l_tuples) (defScope s_l_tuples) .none kV15 dc15 pm15 an15 cd15 ct15), sl15⟩) (c15 : PySem.W.codeIn K cd15 "_law_tuples" = true) (k15 : PySem.W.keepIn K (.ref f15) = true)
    (a16 : PySem.W.nsIn K mainGlobals "_law_cell_right" = some (some (.ref f16))) (l16 : K.lookup f16 = some ⟨oc16, od16, .func (PySem.W.fnOf "_law_cell_right" "_law_cell_right" (defArgs s_l_cell_right) (defBody s_l_cell_right) (defScope s_l_cell_right) .none kV16 dc16 pm16 an16 cd16 ct16), sl16⟩) (c16 : PySem.W.codeIn K cd16 "_law_cell_right" = true) (k16 : PySem.W.keepIn K (.ref f16) = true)
    (a17 : PySem.W.nsIn K mainGlobals "law" = some (some (.ref f17))) (l17 : K.lookup f17 = some ⟨oc17, od17, .func (PySem.W.fnOf "law" "law" (defArgs s_law) (defBody s_law) (defScope s_law) .none kV17 dc17 pm17 an17 cd17 ct17), sl17⟩) (c17 : PySem.W.codeIn K cd17 "law" = true) (k17 : PySem.W.keepIn K (.ref f17) = true)
    (z_abs : PySem.W.nsIn K mainGlobals "abs" = some none)
    (z_all : PySem.W.nsIn K mainGlobals "all" = some none)
    (z_bool : PySem.W.nsIn K mainGlobals "bool" = some none)
    (z_int : PySem.W.nsIn K mainGlobals "int" = some none)
    (z_isinstance : PySem.W.nsIn K mainGlobals "isinstance" = some none)
    (z_len : PySem.W.nsIn K mainGlobals "len" = some none)
    (z_list : PySem.W.nsIn K mainGlobals "list" = some none)
    (z_max : PySem.W.nsIn K mainGlobals "max" = some none)
    (z_min : PySem.W.nsIn K mainGlobals "min" = some none)
    (z_range : PySem.W.nsIn K mainGlobals "range" = some none)
    (z_repr : PySem.W.nsIn K mainGlobals "repr" = some none)
    (z_set : PySem.W.nsIn K mainGlobals "set" = some none)
    (z_sorted : PySem.W.nsIn K mainGlobals "sorted" = some none)
    (z_str : PySem.W.nsIn K mainGlobals "str" = some none)
    (z_tuple : PySem.W.nsIn K mainGlobals "tuple" = some none)
    (z_zip : PySem.W.nsIn K mainGlobals "zip" = some none)
    (g_MAX_LETTERS : PySem.W.nsIn K mainGlobals "MAX_LETTERS" = some (some (.int 8 t_MAX_LETTERS)))
    (g_GREATEST : PySem.W.nsIn K mainGlobals "GREATEST" = some (some (.int (10 ^ 60 - 1) t_GREATEST))) :
    ∃ fd : FuncData, (∀ (s : Shared) (v : Value), BindsTo s fd ⟨[v], []⟩ [("_law_script", v)]) ∧ ∀ base : Heap, K.In base → base.Ns mainGlobals mg → FnG l.prog w K mg base 6 fa fd ["_law_script"] (spD K rLaw) := by
  have e := hfa.symm.trans (PySem.W.mg_of X G a17)
  cases e
  have T : Txt K mg := ⟨PySem.W.mg_none_of X G z_abs,
    PySem.W.mg_none_of X G z_all,
    PySem.W.mg_none_of X G z_bool,
    PySem.W.mg_none_of X G z_int,
    PySem.W.mg_none_of X G z_isinstance,
    PySem.W.mg_none_of X G z_len,
    PySem.W.mg_none_of X G z_list,
    PySem.W.mg_none_of X G z_max,
    PySem.W.mg_none_of X G z_min,
    PySem.W.mg_none_of X G z_range,
    PySem.W.mg_none_of X G z_repr,
    PySem.W.mg_none_of X G z_set,
    PySem.W.mg_none_of X G z_sorted,
    PySem.W.mg_none_of X G z_str,
    PySem.W.mg_none_of X G z_tuple,
    PySem.W.mg_none_of X G z_zip,
    ⟨t_MAX_LETTERS, PySem.W.mg_of X G g_MAX_LETTERS⟩,
    ⟨t_GREATEST, PySem.W.mg_of X G g_GREATEST⟩,
    defAt_mk l0 c0 k0 (PySem.W.mg_of X G a0) (fun _ _ _ _ _ _ us hl => match us, hl with | [_], _ => rfl),
    defAt_mk l1 c1 k1 (PySem.W.mg_of X G a1) (fun _ _ _ _ _ _ us hl => match us, hl with | [_], _ => rfl),
    defAt_mk l2 c2 k2 (PySem.W.mg_of X G a2) (fun _ _ _ _ _ _ us hl => match us, hl with | [_], _ => rfl),
    defAt_mk l3 c3 k3 (PySem.W.mg_of X G a3) (fun _ _ _ _ _ _ us hl => match us, hl with | [_], _ => rfl),
    defAt_mk l4 c4 k4 (PySem.W.mg_of X G a4) (fun _ _ _ _ _ _ us hl => match us, hl with | [_, _], _ => rfl),
    defAt_mk l5 c5 k5 (PySem.W.mg_of X G a5) (fun _ _ _ _ _ _ us hl => match us, hl with | [_, _], _ => rfl),
    defAt_mk l6 c6 k6 (PySem.W.mg_of X G a6) (fun _ _ _ _ _ _ us hl => match us, hl with | [_, _], _ => rfl),
    defAt_mk l7 c7 k7 (PySem.W.mg_of X G a7) (fun _ _ _ _ _ _ us hl => match us, hl with | [_, _], _ => rfl),
    defAt_mk l8 c8 k8 (PySem.W.mg_of X G a8) (fun _ _ _ _ _ _ us hl => match us, hl with | [_], _ => rfl),
    defAt_mk l9 c9 k9 (PySem.W.mg_of X G a9) (fun _ _ _ _ _ _ us hl => match us, hl with | [_, _], _ => rfl),
    defAt_mk l10 c10 k10 (PySem.W.mg_of X G a10) (fun _ _ _ _ _ _ us hl => match us, hl with | [_], _ => rfl),
    defAt_mk l11 c11 k11 (PySem.W.mg_of X G a11) (fun _ _ _ _ _ _ us hl => match us, hl with | [_], _ => rfl),
    defAt_mk l12 c12 k12 (PySem.W.mg_of X G a12) (fun _ _ _ _ _ _ us hl => match us, hl with | [_], _ => rfl),
    defAt_mk l13 c13 k13 (PySem.W.mg_of X G a13) (fun _ _ _ _ _ _ us hl => match us, hl with | [_, _], _ => rfl),
    defAt_mk l14 c14 k14 (PySem.W.mg_of X G a14) (fun _ _ _ _ _ _ us hl => match us, hl with | [_], _ => rfl),
    defAt_mk l15 c15 k15 (PySem.W.mg_of X G a15) (fun _ _ _ _ _ _ us hl => match us, hl with | [_], _ => rfl),
    defAt_mk l16 c16 k16 (PySem.W.mg_of X G a16) (fun _ _ _ _ _ _ us hl => match us, hl with | [_, _], _ => rfl)⟩
  refine ⟨PySem.W.fnOf "law" "law" (defArgs s_law) (defBody s_law) (defScope s_law) .none kV17 dc17 pm17 an17 cd17 ct17, fun s v => .of_eq rfl, fun base _ _ => ?_⟩
  exact law_g T (fun_mk l17 c17 k17)
end K00
open PySem PySem.W PyProof.Rows
set_option maxHeartbeats 0 in
theorem PySem.Challenge.cw_whichwalks_k00_integers_names_and_sets_holds : PySem.Challenge.rw_whichwalks_k00_integers_names_and_sets.Holds := by
  w_on; o_law; k_head; (case hw => w_witness2)
  k_fill
  refine DL.walkG (l := PySem.Challenge.rw_whichwalks_k00_integers_names_and_sets) (n := 63) (k := 6) (x := "_law_script") (R := K00.rLaw) rfl (by decide) rfl ⟨⟨rfl, by decide, by decide⟩, rfl⟩ (fun w h Y => PySem.W.kIn_of Y) ?F (fun ns hl => K00.rLaw_ok ns hl)
  case F =>
    intro w mg fa h KX G hmg
    refine' K00.all_mk KX G hmg ?a0 ?l0 ?c0 ?k0 ?a1 ?l1 ?c1 ?k1 ?a2 ?l2 ?c2 ?k2 ?a3 ?l3 ?c3 ?k3 ?a4 ?l4 ?c4 ?k4 ?a5 ?l5 ?c5 ?k5 ?a6 ?l6 ?c6 ?k6 ?a7 ?l7 ?c7 ?k7 ?a8 ?l8 ?c8 ?k8 ?a9 ?l9 ?c9 ?k9 ?a10 ?l10 ?c10 ?k10 ?a11 ?l11 ?c11 ?k11 ?a12 ?l12 ?c12 ?k12 ?a13 ?l13 ?c13 ?k13 ?a14 ?l14 ?c14 ?k14 ?a15 ?l15 ?c15 ?k15 ?a16 ?l16 ?c16 ?k16 ?a17 ?l17 ?c17 ?k17 ?z_abs ?z_all ?z_bool ?z_int ?z_isinstance ?z_len ?z_list ?z_max ?z_min ?z_range ?z_repr ?z_set ?z_sorted ?z_str ?z_tuple ?z_zip ?g_MAX_LETTERS ?g_GREATEST
    (case a0 => k_is); (case l0 => k_is); (case c0 => k_is); (case k0 => k_is); (case a1 => k_is); (case l1 => k_is); (case c1 => k_is); (case k1 => k_is); (case a2 => k_is); (case l2 => k_is); (case c2 => k_is); (case k2 => k_is); (case a3 => k_is); (case l3 => k_is); (case c3 => k_is); (case k3 => k_is); (case a4 => k_is); (case l4 => k_is); (case c4 => k_is); (case k4 => k_is); (case a5 => k_is); (case l5 => k_is); (case c5 => k_is); (case k5 => k_is); (case a6 => k_is); (case l6 => k_is); (case c6 => k_is); (case k6 => k_is); (case a7 => k_is); (case l7 => k_is); (case c7 => k_is); (case k7 => k_is); (case a8 => k_is); (case l8 => k_is); (case c8 => k_is); (case k8 => k_is); (case a9 => k_is); (case l9 => k_is); (case c9 => k_is); (case k9 => k_is); (case a10 => k_is); (case l10 => k_is); (case c10 => k_is); (case k10 => k_is); (case a11 => k_is); (case l11 => k_is); (case c11 => k_is); (case k11 => k_is); (case a12 => k_is); (case l12 => k_is); (case c12 => k_is); (case k12 => k_is); (case a13 => k_is); (case l13 => k_is); (case c13 => k_is); (case k13 => k_is); (case a14 => k_is); (case l14 => k_is); (case c14 => k_is); (case k14 => k_is); (case a15 => k_is); (case l15 => k_is); (case c15 => k_is); (case k15 => k_is); (case a16 => k_is); (case l16 => k_is); (case c16 => k_is); (case k16 => k_is); (case a17 => k_is); (case l17 => k_is); (case c17 => k_is); (case k17 => k_is); (case z_abs => k_is); (case z_all => k_is); (case z_bool => k_is); (case z_int => k_is); (case z_isinstance => k_is); (case z_len => k_is); (case z_list => k_is); (case z_max => k_is); (case z_min => k_is); (case z_range => k_is); (case z_repr => k_is); (case z_set => k_is); (case z_sorted => k_is); (case z_str => k_is); (case z_tuple => k_is); (case z_zip => k_is); (case g_MAX_LETTERS => k_is); (case g_GREATEST => k_is)
