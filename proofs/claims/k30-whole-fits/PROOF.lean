import PyProof.Rows.All
import Wide.All
import OpenK.AllK
import Wide.FinOn
import HandS.ForMost
import HandS.Exc
import HandS.TryOnly
import HandS.ExcOwn
import HandS.WordsExc
import HandS.IsInst
import HandS.Flow
import HandS.Wide
import HandS.Style
import HandS.Walk
import HandS.Lambda
import HandS.ExcCtx
import HandS.HeadHook1
import HandS.TupAny
import HandS.TupMul
import HandS.Deep
import HandS.TupLe
import KE.GoesMore
import HandS.Zip
import HandS.Text
import HandS.RaiseMore
import HandS.More
import HandS.Sort
import HandS.Dict
import KE.DataMinMax
import KE.SortData
import HandS.HeadHook3
import HandS.HeadHook4
import HandS.HeadEnd
import HandS.HeadWalk
import PyProof.ExcBaseAll.ValueError
import HandS.Conv
import HandS.Strs
import HandS.Hot
import HandS.HotCalls
import HandS.ExcIs
import KE.GoesComp
import HandS.TupSets
import HandS.SetFor
import HandS.SortInts
import PySem.Challenge.RW_billrules_k30_whole_fits
import HandS.Head0
import HandS.Head1
import HandS.Head2
set_option Elab.async false
set_option linter.all false
set_option maxRecDepth 100000
set_option maxHeartbeats 4000000
/-! DL1: expressions read as functions of plain data (PyData): what a def computes, told without the heap. -/
namespace DL
open PySem PySem.Spec PyProof.Rows L2

abbrev D := PyData
/-- the refusals of the program, by name -/
inductive Exn where
  | badRule | badBill | noRule | badText | badGood | tooFew | noReceipt | nothing
  deriving DecidableEq
/-- a value, a refusal, or no word (the layer says nothing there) -/
inductive R (α : Type) where
  | ok (a : α) | err (c : Exn) | bad
namespace R
def bind {α β : Type} : R α → (α → R β) → R β
  | .ok a, k => k a
  | .err c, _ => .err c
  | .bad, _ => .bad
@[simp] theorem ok_bind {α β : Type} (a : α) (k : α → R β) : (R.ok a).bind k = k a := rfl
@[simp] theorem err_bind {α β : Type} (c : Exn) (k : α → R β) : (R.err c).bind k = .err c := rfl
@[simp] theorem bad_bind {α β : Type} (k : α → R β) : (R.bad).bind k = .bad := rfl
/-- only a value counts -/
def pure? {α : Type} : R α → R α
  | .ok a => .ok a
  | _ => .bad
end R
/-- tables of code objects (for lambdas), the classes of the refusals -/
structure Gd where
  T : List (Addr × Str)
  cl : Exn → Addr

/-! ### what stands for which data: lists may be read as they stand, tuples too -/
/-- a dict's key as data -/
def keyD : Key → D
  | .inl i => .int i
  | .inr x => .str x
mutual
inductive Rp (K : PySem.W.Frag) (H : Hp) : V → D → Prop
  | non : Rp K H .non .none
  | bl (b : Bool) : Rp K H (.bl b) (.bool b)
  | int (i : Int) : Rp K H (.int i) (.int i)
  | str (x : Str) : Rp K H (.str x) (.str x)
  | lst {a : Addr} {xs : List V} {ds : List D} : Rd H a (.lst xs) → RpAll K H xs ds → Rp K H (.ref a) (.list ds)
  | tup {a : Addr} {xs : List V} {ds : List D} : SqT K H a xs → RpAll K H xs ds → Rp K H (.ref a) (.tuple ds)
  | dic {a : Addr} {kvs : List (Key × V)} {ds : List D} {es : List (D × D)} : Rd H a (.dK kvs) → RpAll K H (kvs.map fun p => p.2) ds → es = (kvs.map fun p => keyD p.1).zip ds → Rp K H (.ref a) (.dict es)
  | fn (x : Str) : Rp K H (.ref (He.ga K x)) (.dict [(.none, .str x)])
inductive RpAll (K : PySem.W.Frag) (H : Hp) : List V → List D → Prop
  | nil : RpAll K H [] []
  | cons {v : V} {vs : List V} {d : D} {ds : List D} : Rp K H v d → RpAll K H vs ds → RpAll K H (v :: vs) (d :: ds)
end
mutual
theorem rp_dp {K : PySem.W.Frag} {H : Hp} : ∀ (d : D) (v : V), d.canLay0 = true → Rp K H v d → Dp K H v d
  | .none, _, _, h => by cases h; exact .non
  | .bool b, _, _, h => by cases h; exact .bl b
  | .int i, _, _, h => by cases h; exact .int i
  | .str x, _, _, h => by cases h; exact .str x
  | .list ds, _, c, h => by
    cases h with
    | lst hs ha => exact .lst (.inl hs) (rp_dpAll ds _ (by simpa [PyData.canLay0] using c) ha)
  | .tuple ds, _, c, h => by
    cases h with
    | tup hs ha => exact .tup hs (rp_dpAll ds _ (by simpa [PyData.canLay0] using c) ha)
  | .dict _, _, c, _ => by simp [PyData.canLay0] at c
theorem rp_dpAll {K : PySem.W.Frag} {H : Hp} : ∀ (ds : List D) (vs : List V), PyData.canLayAll0 ds = true → RpAll K H vs ds → DpAll K H vs ds
  | [], _, _, h => by cases h; exact .nil
  | d :: ds, _, c, h => by
    have c' : d.canLay0 = true ∧ PyData.canLayAll0 ds = true := by simpa [PyData.canLayAll0] using c
    cases h with
    | cons h1 h2 => exact .cons (rp_dp d _ c'.1 h1) (rp_dpAll ds _ c'.2 h2)
end
theorem Rp.dp {K : PySem.W.Frag} {H : Hp} {v : V} {d : D} (h : Rp K H v d) (c : SeqAt.shaped d = true) : Dp K H v d := rp_dp d v (SeqAt.canLay_of_shaped c) h

/-- what was tracked stands; the tables may have grown -/
structure Ex (T : List (Addr × Str)) (H H' : Hp) : Prop where
  keep : LamX.ExtN H H'
  tabs : LamX.Tabs T H → LamX.Tabs T H'
  tbl : ∀ b ps, H b = some (.tbl ps) → ∃ ps', H' b = some (.tbl ps')
section
variable {T : List (Addr × Str)} {H H1 H2 H' : Hp} {K : PySem.W.Frag}
theorem Ex.refl (H : Hp) : Ex T H H := ⟨LamX.ExtN.refl H, id, fun _ ps e => ⟨ps, e⟩⟩
theorem Ex.trans (a : Ex T H H1) (b : Ex T H1 H2) : Ex T H H2 := ⟨a.keep.trans b.keep, fun t => b.tabs (a.tabs t), fun c ps e => (a.tbl c ps e).elim fun ps' e' => b.tbl c ps' e'⟩
theorem Ex.same (e : ∀ b o, H b = some o → H' b = some o) : Ex T H H' := ⟨LamX.ExtN.of e, fun t => t.ext e, fun b ps q => ⟨ps, e b _ q⟩⟩
theorem Ex.new {p : Addr} {o : HO} (h : H p = none) : Ex T H (upd H p o) := Ex.same fun b u e => by
  rw [upd_ne (ne_of_none e h)]
  exact e
theorem Ex.lst (e : Ex T H H') {p : Addr} {xs : List V} (h : H p = some (.lst xs)) : H' p = some (.lst xs) := e.keep _ _ h fun ps z => by cases z
theorem Ex.tup (e : Ex T H H') {p : Addr} {xs : List V} (h : H p = some (.tup xs)) : H' p = some (.tup xs) := e.keep _ _ h fun ps z => by cases z
/-- fresh ahead is fresh before -/
theorem Ex.free (e : Ex T H H') {p : Addr} (h : H' p = none) : H p = none := by
  cases q : H p with
  | none => rfl
  | some o =>
    by_cases z : ∃ ps, o = .tbl ps
    · obtain ⟨ps, rfl⟩ := z
      obtain ⟨ps', q'⟩ := e.tbl p ps q
      rw [h] at q'
      cases q'
    · rw [e.keep _ _ q (fun ps y => z ⟨ps, y⟩)] at h
      cases h
theorem rd_ext (e : LamX.ExtN H H') {a : Addr} {xs : List V} (h : Rd H a (.lst xs)) : Rd H' a (.lst xs) := by
  rcases h with h | ⟨o, h⟩
  · exact .inl (e _ _ h fun ps z => by cases z)
  · exact .inr ⟨o, e _ _ h fun ps z => by cases z⟩
theorem sqT_ext (e : LamX.ExtN H H') {a : Addr} {xs : List V} (h : SqT K H a xs) : SqT K H' a xs := by
  rcases h with (h | ⟨o, h⟩) | h
  · exact .inl (.inl (e _ _ h fun ps z => by cases z))
  · exact .inl (.inr ⟨o, e _ _ h fun ps z => by cases z⟩)
  · exact .inr h
theorem rdD_ext (e : LamX.ExtN H H') {a : Addr} {kvs : List (Key × V)} (h : Rd H a (.dK kvs)) : Rd H' a (.dK kvs) := by
  rcases h with h | ⟨o, h⟩
  · exact .inl (e _ _ h fun ps z => by cases z)
  · exact .inr ⟨o, e _ _ h fun ps z => by cases z⟩
mutual
theorem rp_ext (e : LamX.ExtN H H') : ∀ {v : V} {d : D}, Rp K H v d → Rp K H' v d
  | _, _, .non => .non
  | _, _, .bl b => .bl b
  | _, _, .int i => .int i
  | _, _, .str x => .str x
  | _, _, .lst hs ha => .lst (rd_ext e hs) (rpAll_ext e ha)
  | _, _, .tup hs ha => .tup (sqT_ext e hs) (rpAll_ext e ha)
  | _, _, .dic hs ha q => .dic (rdD_ext e hs) (rpAll_ext e ha) q
  | _, _, .fn x => .fn x
theorem rpAll_ext (e : LamX.ExtN H H') : ∀ {vs : List V} {ds : List D}, RpAll K H vs ds → RpAll K H' vs ds
  | _, _, .nil => .nil
  | _, _, .cons h1 h2 => .cons (rp_ext e h1) (rpAll_ext e h2)
end
theorem Ex.rp (e : Ex T H H') {v : V} {d : D} (h : Rp K H v d) : Rp K H' v d := rp_ext e.keep h
theorem Ex.rps (e : Ex T H H') {vs : List V} {ds : List D} (h : RpAll K H vs ds) : RpAll K H' vs ds := rpAll_ext e.keep h
theorem RpAll.len : ∀ {vs : List V} {ds : List D}, RpAll K H vs ds → vs.length = ds.length
  | _, _, .nil => rfl
  | _, _, .cons _ h => congrArg (· + 1) (RpAll.len h)
theorem RpAll.get : ∀ {vs : List V} {ds : List D} {i : Nat} {d : D}, RpAll K H vs ds → ds[i]? = some d → ∃ v, vs[i]? = some v ∧ Rp K H v d
  | _, _, i, d, .nil, h => by simp at h
  | _, _, 0, d, .cons h1 _, h => by
    simp at h
    subst h
    exact ⟨_, rfl, h1⟩
  | _, _, i + 1, d, .cons _ h2, h => by
    obtain ⟨v, e, q⟩ := RpAll.get (i := i) (d := d) h2 (by simpa using h)
    exact ⟨v, by simpa using e, q⟩
theorem RpAll.getV : ∀ {vs : List V} {ds : List D} {i : Nat} {v : V}, RpAll K H vs ds → vs[i]? = some v → ∃ d, ds[i]? = some d ∧ Rp K H v d
  | _, _, i, d, .nil, h => by simp at h
  | _, _, 0, d, .cons h1 _, h => by
    simp at h
    subst h
    exact ⟨_, rfl, h1⟩
  | _, _, i + 1, d, .cons _ h2, h => by
    obtain ⟨v, e, q⟩ := RpAll.getV (i := i) (v := d) h2 (by simpa using h)
    exact ⟨v, by simpa using e, q⟩
theorem RpAll.app : ∀ {vs ws : List V} {ds es : List D}, RpAll K H vs ds → RpAll K H ws es → RpAll K H (vs ++ ws) (ds ++ es)
  | _, _, _, _, .nil, h => h
  | _, _, _, _, .cons h1 h2, h => .cons h1 (RpAll.app h2 h)
theorem RpAll.drop : ∀ {vs : List V} {ds : List D} (n : Nat), RpAll K H vs ds → RpAll K H (vs.drop n) (ds.drop n)
  | _, _, 0, h => h
  | _, _, _ + 1, .nil => .nil
  | _, _, n + 1, .cons _ h => RpAll.drop n h
theorem RpAll.take : ∀ {vs : List V} {ds : List D} (n : Nat), RpAll K H vs ds → RpAll K H (vs.take n) (ds.take n)
  | _, _, 0, _ => .nil
  | _, _, _ + 1, .nil => .nil
  | _, _, n + 1, .cons h1 h => .cons h1 (RpAll.take n h)
theorem RpAll.rev {vs : List V} {ds : List D} (h : RpAll K H vs ds) : RpAll K H vs.reverse ds.reverse := by
  have key : ∀ {vs : List V} {ds : List D}, RpAll K H vs ds → RpAll K H vs.reverse ds.reverse := by
    intro vs ds h
    induction ds generalizing vs with
    | nil => cases h; exact .nil
    | cons d ds ih =>
      cases h with
      | cons h1 h2 =>
        rw [List.reverse_cons, List.reverse_cons]
        exact RpAll.app (ih h2) (.cons h1 .nil)
  exact key h
end

/-! ### what an expression gives -/
section
variable {G : Gd} {E : XK} {α β γ δ : Type} {rel : Hp → β → α → Prop} {rel2 : Hp → δ → γ → Prop} {H H1 : Hp}
def Out (G : Gd) (E : XK) {α β : Type} (rel : Hp → β → α → Prop) (H : Hp) (r : R α) (Q : β → Hp → Prop) : Prop :=
  match r with
  | .ok d => ∀ v H', Ex G.T H H' → rel H' v d → Q v H'
  | .err c => ∀ H', Ex G.T H H' → E (.ref (G.cl c)) none H'
  | .bad => False
theorem Out.ext {r : R α} {Q : β → Hp → Prop} (e : Ex G.T H H1) (h : Out G E rel H r Q) : Out G E rel H1 r Q := by
  cases r with
  | ok d => exact fun v H' e' rl => h v H' (e.trans e') rl
  | err c => exact fun H' e' => h H' (e.trans e')
  | bad => exact h
theorem Out.bind {r : R α} {k : α → R γ} {Q : δ → Hp → Prop} (h : Out G E rel2 H (r.bind k) Q) : Out G E rel H r fun v H1 => ∃ d, r = .ok d ∧ Ex G.T H H1 ∧ rel H1 v d ∧ Out G E rel2 H1 (k d) Q := by
  cases r with
  | ok d => exact fun v H' e rl => ⟨d, rfl, e, rl, Out.ext e h⟩
  | err c => exact h
  | bad => exact h
theorem Out.mono {r : R α} {Q Q' : β → Hp → Prop} (h : Out G E rel H r Q) (k : ∀ v H', Ex G.T H H' → (∃ d, r = .ok d ∧ rel H' v d) → Q v H' → Q' v H') : Out G E rel H r Q' := by
  cases r with
  | ok d => exact fun v H' e rl => k v H' e ⟨d, rfl, rl⟩ (h v H' e rl)
  | err c => exact h
  | bad => exact h
end
/-- the slots, as an expression sees them -/
abbrev DE := List (Option D)
def RepE (G : Gd) (K : PySem.W.Frag) (H : Hp) (σ : L2.St) (ρ : DE) : Prop := LamX.Tabs G.T H ∧ (∀ (i : Nat) (d : D), ρ[i]? = some (some d) → ∃ v, σ[i]? = some (some v) ∧ Rp K H v d) ∧ σ.length = ρ.length
theorem RepE.ext {G : Gd} {K : PySem.W.Frag} {H H1 : Hp} {σ : L2.St} {ρ : DE} (e : Ex G.T H H1) (h : RepE G K H σ ρ) : RepE G K H1 σ ρ := ⟨e.tabs h.1, fun i d q => by
  obtain ⟨v, h1, h2⟩ := h.2.1 i d q
  exact ⟨v, h1, e.rp h2⟩, h.2.2⟩
def rB : Hp → Bool → Bool → Prop := fun _ b b' => b = b'
def tD (G : Gd) (E : XK) (K : PySem.W.Frag) (f : DE → R D) : TE := fun σ H Q => ∃ ρ, RepE G K H σ ρ ∧ Out G E (Rp K) H (f ρ) Q
def tDT (G : Gd) (E : XK) (K : PySem.W.Frag) (f : DE → R Bool) : TT := fun σ H Q => ∃ ρ, RepE G K H σ ρ ∧ Out G E rB H (f ρ) Q
def tDA (G : Gd) (E : XK) (K : PySem.W.Frag) (f : DE → R (List D)) : TA := fun σ H Q => ∃ ρ, RepE G K H σ ρ ∧ Out G E (RpAll K) H (f ρ) Q
/-- e computes f -/
def PD (G : Gd) (E : XK) (X : Cx) (e : Expr) (f : DE → R D) : Prop := PE X e (tD G E X.K f)
def PDT (G : Gd) (E : XK) (X : Cx) (e : Expr) (f : DE → R Bool) : Prop := PT X e (tDT G E X.K f)
def PDA (G : Gd) (E : XK) (X : Cx) (es : List Expr) (f : DE → R (List D)) : Prop := PA X es (tDA G E X.K f)

theorem pe_imp {X : Cx} {e : Expr} {t t' : TE} (h : PE X e t) (k : ∀ σ H Q, t' σ H Q → t σ H Q) : PE X e t' := ⟨fun pins s σ H Q I q => h.run pins s σ H Q I (k σ H Q q)⟩
theorem pt_imp {X : Cx} {e : Expr} {t t' : TT} (h : PT X e t) (k : ∀ σ H Q, t' σ H Q → t σ H Q) : PT X e t' := ⟨fun pins s σ H Q I q => h.run pins s σ H Q I (k σ H Q q)⟩
theorem pa_imp {X : Cx} {e : List Expr} {t t' : TA} (h : PA X e t) (k : ∀ σ H Q, t' σ H Q → t σ H Q) : PA X e t' := ⟨fun pos pins s σ H Q I q => h.run pos pins s σ H Q I (k σ H Q q)⟩
/-- what every state of the heap keeps: lists and tuples are no longer than the line -/
def Bd (K : PySem.W.Frag) (H : Hp) : Prop := (∀ a xs, SqL K H a xs → xs.length ≤ sizeLine) ∧ ∀ a xs, SqT K H a xs → xs.length ≤ sizeLine
theorem bd_of {X : Cx} {pins : List (Addr × Obj)} {σ : L2.St} {H : Hp} {s : Shared} (I : Inv X pins σ H s) : Bd X.K H :=
  ⟨fun a xs h => (I.list h).elim fun _ q => q.2.2, fun a xs h => (I.tuple h).elim fun _ q => q.2.2⟩
/-- behind an expression the line holds -/
theorem pe_bd {X : Cx} {e : Expr} {t : TE} (h : PE X e t) : PE X e (fun σ H Q => t σ H fun v H1 => Bd X.K H1 → Q v H1) := ⟨fun pins s σ H Q I q => by
  refine thn (h.run pins s σ H _ I q) fun u s' hs => ?_
  obtain ⟨v, H', I', r, k⟩ := hs
  exact ⟨v, H', I', r, k (bd_of I')⟩⟩

/-! ### the words -/
def eVar (i : Nat) : DE → R D := fun ρ => match ρ[i]? with
  | some (some d) => .ok d
  | _ => .bad
def eC (d : D) : DE → R D := fun _ => .ok d
def eOp (o : D → D → R D) (f g : DE → R D) : DE → R D := fun ρ => (f ρ).bind fun a => (g ρ).bind fun b => o a b
def eUn (o : D → R D) (f : DE → R D) : DE → R D := fun ρ => (f ρ).bind o
def aNil : DE → R (List D) := fun _ => .ok []
def aCons (f : DE → R D) (g : DE → R (List D)) : DE → R (List D) := fun ρ => (f ρ).bind fun a => (g ρ).bind fun l => .ok (a :: l)
def eTup (g : DE → R (List D)) : DE → R D := fun ρ => (g ρ).bind fun l => .ok (.tuple l)
def eLst (g : DE → R (List D)) : DE → R D := fun ρ => (g ρ).bind fun l => .ok (.list l)
/-- a test's answer, a bool's -/
def tBl (f : DE → R D) : DE → R Bool := fun ρ => (f ρ).bind fun d => match d with
  | .bool b => .ok b
  | _ => .bad
def eIf (c : DE → R Bool) (f g : DE → R D) : DE → R D := fun ρ => (c ρ).bind fun b => if b = true then f ρ else g ρ
def tNt (c : DE → R Bool) : DE → R Bool := fun ρ => (c ρ).bind fun b => .ok (!b)
def tAn (c d : DE → R Bool) : DE → R Bool := fun ρ => (c ρ).bind fun b => if b = true then d ρ else .ok false
def tOrr (c d : DE → R Bool) : DE → R Bool := fun ρ => (c ρ).bind fun b => if b = true then .ok true else d ρ
/-- and, or, not as values: bools -/
def vAn (f g : DE → R D) : DE → R D := fun ρ => (f ρ).bind fun a => match a with
  | .bool b => if b = true then g ρ else .ok (.bool false)
  | _ => .bad
def vOr (f g : DE → R D) : DE → R D := fun ρ => (f ρ).bind fun a => match a with
  | .bool b => if b = true then .ok (.bool true) else g ρ
  | _ => .bad
def vNt (f : DE → R D) : DE → R D := fun ρ => (f ρ).bind fun a => match a with
  | .bool b => .ok (.bool (!b))
  | _ => .bad

section
variable {G : Gd} {E : XK} {X : Cx} {a b e : Expr} {es rest : List Expr} {f g h : DE → R D} {c c' : DE → R Bool} {fs : DE → R (List D)} {pos : Pos}
theorem pd_var (i : Nat) {x : Str} {pos : Pos} (hN : X.N[i]? = some x := by rfl) (hv : Vis X.env.scope x := by first | exact Or.inl rfl | exact Or.inr (Or.inl rfl) | exact Or.inr (Or.inr rfl)) (hd : (x == ("__debug__" : Str)) = false := by decide)
    (hcd : (x == ("__classdict__" : Str)) = false := by decide) : PD G E X (.Name x pos) (eVar i) := by
  refine pe_imp (pe_var (i := i) hN hv hd hcd) ?_
  rintro σ H Q ⟨ρ, hr, ho⟩
  unfold eVar at ho
  split at ho
  · rename_i d hi
    obtain ⟨v, h1, h2⟩ := hr.2.1 i d hi
    exact ⟨v, h1, ho v H (Ex.refl H) h2⟩
  · exact ho.elim
theorem pd_c {v : V} {d : D} (hp : PE X e (tC v)) (hd : ∀ H, Rp X.K H v d) : PD G E X e (eC d) := by
  refine pe_imp hp ?_
  rintro σ H Q ⟨ρ, hr, ho⟩
  exact ho v H (Ex.refl H) (hd H)
theorem pd_int {i : Int} {j : Nat} : PD G E X (.Constant (.int i) j pos) (eC (.int i)) := pd_c pe_int fun _ => .int i
theorem pd_bl {i : Bool} {j : Nat} : PD G E X (.Constant (.bool i) j pos) (eC (.bool i)) := pd_c pe_bl fun _ => .bl i
theorem pd_non {j : Nat} : PD G E X (.Constant .none j pos) (eC .none) := pd_c pe_non fun _ => .non
theorem pd_str {x : Str} {j : Nat} : PD G E X (.Constant (.str x) j pos) (eC (.str x)) := pd_c pe_str fun _ => .str x
/-- a module's constant -/
theorem pd_glob {x : Str} {v : V} {u : Value} {d : D} (hg : Gl X x) (hm : X.mg x = some u) (r : RelV v u) (hd : ∀ H, Rp X.K H v d) (hdb : (x == ("__debug__" : Str)) = false := by decide) : PD G E X (.Name x pos) (eC d) := pd_c (pe_glob hg hm r hdb) hd

/-- a word for two operands, from its rule by values -/
def OkOp (G : Gd) (E : XK) (K : PySem.W.Frag) (r : R2) (o : D → D → R D) : Prop := ∀ (H : Hp) (x y : V) (d1 d2 : D) (Q : VK), Bd K H → Rp K H x d1 → Rp K H y d2 → Out G E (Rp K) H (o d1 d2) Q → r x y H Q
theorem pd_bin {op : Operator} {r : R2} {o : D → D → R D} (ho : OpR X (binaryOp op) r) (hs : OkOp G E X.K r o) (ha : PD G E X a f) (hb : PD G E X b g) : PD G E X (.BinOp a op b pos) (eOp o f g) := by
  refine pe_imp (pe_op ho ha (pe_bd hb)) ?_
  intro σ H Q h
  obtain ⟨ρ, hr, ho⟩ := h
  refine ⟨ρ, hr, (Out.bind (rel := Rp X.K) ho).mono ?_⟩
  rintro x H1 e1 - ⟨d1, hd1, _, hx, ho⟩
  refine ⟨ρ, hr.ext e1, (Out.bind (rel := Rp X.K) ho).mono ?_⟩
  rintro y H2 e2 - ⟨d2, hd2, _, hy, ho⟩ bd
  exact hs H2 x y d1 d2 Q bd (e2.rp hx) hy ho
theorem pd_cmp {op : CmpOp} {r : R2} {o : D → D → R D} (ho : OpR X (compareOp op) r) (hs : OkOp G E X.K r o) (ha : PD G E X a f) (hb : PD G E X b g) (hm : behindInMarks op b = false) : PD G E X (.Compare a [op] [b] pos) (eOp o f g) := by
  refine pe_imp (pe_cmpR ho ha (pe_bd hb) hm) ?_
  intro σ H Q h
  obtain ⟨ρ, hr, ho⟩ := h
  refine ⟨ρ, hr, (Out.bind (rel := Rp X.K) ho).mono ?_⟩
  rintro x H1 e1 - ⟨d1, hd1, _, hx, ho⟩
  refine ⟨ρ, hr.ext e1, (Out.bind (rel := Rp X.K) ho).mono ?_⟩
  rintro y H2 e2 - ⟨d2, hd2, _, hy, ho⟩ bd
  exact hs H2 x y d1 d2 Q bd (e2.rp hx) hy ho
theorem pd_ix {r : R2} {o : D → D → R D} (ho : IxR X r) (hs : OkOp G E X.K r o) (ha : PD G E X a f) (hb : PD G E X b g) (hp : PlainIx b := by exact (fun _ _ => rfl)) : PD G E X (.Subscript a b pos) (eOp o f g) := by
  refine pe_imp (pe_ix ho ha (pe_bd hb) hp) ?_
  intro σ H Q h
  obtain ⟨ρ, hr, ho⟩ := h
  refine ⟨ρ, hr, (Out.bind (rel := Rp X.K) ho).mono ?_⟩
  rintro x H1 e1 - ⟨d1, hd1, _, hx, ho⟩
  refine ⟨ρ, hr.ext e1, (Out.bind (rel := Rp X.K) ho).mono ?_⟩
  rintro y H2 e2 - ⟨d2, hd2, _, hy, ho⟩ bd
  exact hs H2 x y d1 d2 Q bd (e2.rp hx) hy ho
theorem pd_un {op : UnaryOp} {r : V → Hp → VK → Prop} {o : D → R D} (ho : UnR X (unaryOp op) r) (hs : ∀ (H : Hp) (x : V) (d : D) (Q : VK), Rp X.K H x d → Out G E (Rp X.K) H (o d) Q → r x H Q) (ha : PD G E X a f) : PD G E X (.UnaryOp op a pos) (eUn o f) := by
  refine pe_imp (pe_un ho ha) ?_
  rintro σ H Q ⟨ρ, hr, ho⟩
  refine ⟨ρ, hr, (Out.bind (rel := Rp X.K) ho).mono ?_⟩
  rintro x H1 e1 - ⟨d1, hd1, _, hx, ho⟩
  exact hs H1 x d1 Q hx ho
/-! arguments, displays -/
theorem pda_nil : PDA G E X [] aNil := by
  refine pa_imp pa_nil ?_
  rintro σ H Q ⟨ρ, hr, ho⟩
  exact ho [] H (Ex.refl H) .nil
theorem pda_cons (ha : PD G E X e f) (hl : PDA G E X es fs) (hs : starEach (e :: es) X.env = (false, eval e X.env) :: starEach es X.env := by rfl) : PDA G E X (e :: es) (aCons f fs) := by
  refine pa_imp (pa_cons ha hl hs) ?_
  rintro σ H Q ⟨ρ, hr, ho⟩
  refine ⟨ρ, hr, (Out.bind (rel := Rp X.K) ho).mono ?_⟩
  rintro x H1 e1 - ⟨d1, hd1, _, hx, ho⟩
  refine ⟨ρ, hr.ext e1, (Out.bind (rel := RpAll X.K) ho).mono ?_⟩
  rintro ys H2 e2 - ⟨ds, hds, _, hys, ho⟩
  exact ho (x :: ys) H2 (Ex.refl H2) (.cons (e2.rp hx) hys)
theorem small100k {n : Nat} (h : n ≤ 100000) : n ≤ sizeLine := Nat.le_trans h (by decide)
theorem small100kl {n : Nat} (h : n < 100000) : n < sizeLine := Nat.lt_of_lt_of_le h (by decide)
theorem aLen_cons {n : Nat} (h : ∀ ρ l, fs ρ = .ok l → l.length = n) : ∀ ρ l, aCons f fs ρ = .ok l → l.length = n + 1 := by
  intro ρ l e
  unfold aCons at e
  cases hf : f ρ with
  | ok d =>
    rw [hf] at e
    simp only [R.ok_bind] at e
    cases hg : fs ρ with
    | ok l' =>
      rw [hg] at e
      simp only [R.ok_bind] at e
      cases e
      simp [h ρ l' hg]
    | err c => rw [hg] at e; cases e
    | bad => rw [hg] at e; cases e
  | err c => rw [hf] at e; cases e
  | bad => rw [hf] at e; cases e
theorem aLen_nil : ∀ ρ l, aNil ρ = .ok l → l.length = 0 := by
  intro ρ l e
  cases e
  rfl
theorem pd_tup {k : Nat} (hl : PDA G E X es fs) {n : Nat} (hn : ∀ ρ l, fs ρ = .ok l → l.length = n) (hz : n ≤ 100000 := by decide) : PD G E X (.Tuple es k pos) (eTup fs) := by
  refine pe_imp (pe_tup hl) ?_
  rintro σ H Q ⟨ρ, hr, ho⟩
  refine ⟨ρ, hr, (Out.bind (rel := RpAll X.K) ho).mono ?_⟩
  rintro ys H2 e2 - ⟨ds, hds, _, hys, ho⟩
  refine ⟨small100k (by rw [RpAll.len hys, hn ρ ds hds]; exact hz), fun p hp => ?_⟩
  exact ho (.ref p) _ (Ex.new hp) (.tup (SqT.of upd_same) ((Ex.new (T := G.T) hp).rps hys))
theorem pd_lst (hl : PDA G E X es fs) {n : Nat} (hn : ∀ ρ l, fs ρ = .ok l → l.length = n) (hz : n ≤ 100000 := by decide) : PD G E X (.List es pos) (eLst fs) := by
  refine pe_imp (pe_lst hl) ?_
  rintro σ H Q ⟨ρ, hr, ho⟩
  refine ⟨ρ, hr, (Out.bind (rel := RpAll X.K) ho).mono ?_⟩
  rintro ys H2 e2 - ⟨ds, hds, _, hys, ho⟩
  refine ⟨small100k (by rw [RpAll.len hys, hn ρ ds hds]; exact hz), fun p hp => ?_⟩
  exact ho (.ref p) _ (Ex.new hp) (.lst (.inl upd_same) ((Ex.new (T := G.T) hp).rps hys))
/-! tests -/
theorem tBl_out {ρ : DE} {H : Hp} {Q : Bool → Hp → Prop} (ho : Out G E rB H (tBl f ρ) Q) : Out G E (Rp X.K) H (f ρ) fun x H1 => ∃ k, x = .bl k ∧ Q k H1 := by
  refine (Out.bind (rel := Rp X.K) ho).mono ?_
  rintro x H1 e1 - ⟨d, hd, _, hx, ho⟩
  cases d with
  | bool k =>
    cases hx
    exact ⟨k, rfl, ho k H1 (Ex.refl H1) rfl⟩
  | _ => exact ho.elim
theorem pdt_cmp {op : CmpOp} {b : Expr} {bs : List Expr} {ops : List CmpOp} (h : PD G E X (.Compare a ops bs pos) f) (he : ∀ whole, isTrue (.Compare a ops bs pos) X.env whole = (do let v ← whole; standAt (Expr.Compare a ops bs pos).pos; holding [v] (truthy v)) := by intro _; rfl) :
    PDT G E X (.Compare a ops bs pos) (tBl f) := by
  refine pt_imp (pt_val h he) ?_
  rintro σ H Q ⟨ρ, hr, ho⟩
  exact ⟨ρ, hr, tBl_out (X := X) ho⟩
/-- a value that is a bool, as a test -/
theorem pdt_val (h : PD G E X e f) (he : ∀ whole, isTrue e X.env whole = (do let v ← whole; standAt e.pos; holding [v] (truthy v)) := by intro _; rfl) : PDT G E X e (tBl f) := by
  refine pt_imp (pt_val h he) ?_
  rintro σ H Q ⟨ρ, hr, ho⟩
  exact ⟨ρ, hr, tBl_out (X := X) ho⟩
theorem pdt_not (h : PDT G E X a c) : PDT G E X (.UnaryOp .Not a pos) (tNt c) := by
  refine pt_imp (pt_not h) ?_
  rintro σ H Q ⟨ρ, hr, ho⟩
  refine ⟨ρ, hr, (Out.bind (rel := rB) ho).mono ?_⟩
  rintro k H1 e1 - ⟨k', hk, _, hb, ho⟩
  cases hb
  exact ho _ H1 (Ex.refl H1) rfl
/-- and, or: PW -/
def PDW (G : Gd) (E : XK) (X : Cx) (e : Expr) (f : DE → R Bool) : Prop := PW X e (tDT G E X.K f)
theorem pw_imp {X : Cx} {e : Expr} {t t' : TT} (h : PW X e t) (k : ∀ σ H Q, t' σ H Q → t σ H Q) : PW X e t' := ⟨fun whole pins s σ H Q I q => h.run whole pins s σ H Q I (k σ H Q q)⟩
theorem pdw_and1 (h : PDT G E X a c) : PDW G E X (.BoolOp .And [a] pos) c := pw_and1 h
theorem pdw_or1 (h : PDT G E X a c) : PDW G E X (.BoolOp .Or [a] pos) c := pw_or1 h
theorem pdw_and (h : PDT G E X a c) (h2 : PDW G E X (.BoolOp .And (b :: rest) pos) c') : PDW G E X (.BoolOp .And (a :: b :: rest) pos) (tAn c c') := by
  refine pw_imp (pw_and h h2) ?_
  rintro σ H Q ⟨ρ, hr, ho⟩
  refine ⟨ρ, hr, (Out.bind (rel := rB) ho).mono ?_⟩
  rintro k H1 e1 - ⟨k', hk, _, hb, ho⟩
  cases hb
  cases k with
  | true =>
    rw [if_pos rfl] at ho ⊢
    exact ⟨ρ, hr.ext e1, ho⟩
  | false =>
    rw [if_neg Bool.false_ne_true] at ho ⊢
    exact ho _ H1 (Ex.refl H1) rfl
theorem pdw_or (h : PDT G E X a c) (h2 : PDW G E X (.BoolOp .Or (b :: rest) pos) c') : PDW G E X (.BoolOp .Or (a :: b :: rest) pos) (tOrr c c') := by
  refine pw_imp (pw_or h h2) ?_
  rintro σ H Q ⟨ρ, hr, ho⟩
  refine ⟨ρ, hr, (Out.bind (rel := rB) ho).mono ?_⟩
  rintro k H1 e1 - ⟨k', hk, _, hb, ho⟩
  cases hb
  cases k with
  | true =>
    rw [if_pos rfl] at ho ⊢
    exact ho _ H1 (Ex.refl H1) rfl
  | false =>
    rw [if_neg Bool.false_ne_true] at ho ⊢
    exact ⟨ρ, hr.ext e1, ho⟩
theorem PDW.t (h : PDW G E X e c) : PDT G E X e c := PW.pt h
theorem pd_one {op : BoolOp} (h : PD G E X a f) : PD G E X (.BoolOp op [a] pos) f := pe_one h
theorem pd_and (h : PD G E X a f) (h2 : PD G E X (.BoolOp .And (b :: rest) pos) g) : PD G E X (.BoolOp .And (a :: b :: rest) pos) (vAn f g) := by
  refine pe_imp (L2.pe_and h h2) ?_
  rintro σ H Q ⟨ρ, hr, ho⟩
  refine ⟨ρ, hr, (Out.bind (rel := Rp X.K) ho).mono ?_⟩
  rintro x H1 e1 - ⟨d, hd, _, hx, ho⟩
  cases d with
  | bool k =>
    cases hx
    refine ⟨k, rfl, ?_⟩
    cases k with
    | true =>
      rw [if_pos rfl]
      exact ⟨ρ, hr.ext e1, ho⟩
    | false =>
      rw [if_neg Bool.false_ne_true]
      exact ho _ H1 (Ex.refl H1) (.bl false)
  | _ => exact ho.elim
theorem pd_or (h : PD G E X a f) (h2 : PD G E X (.BoolOp .Or (b :: rest) pos) g) : PD G E X (.BoolOp .Or (a :: b :: rest) pos) (vOr f g) := by
  refine pe_imp (L2.pe_or h h2) ?_
  rintro σ H Q ⟨ρ, hr, ho⟩
  refine ⟨ρ, hr, (Out.bind (rel := Rp X.K) ho).mono ?_⟩
  rintro x H1 e1 - ⟨d, hd, _, hx, ho⟩
  cases d with
  | bool k =>
    cases hx
    refine ⟨k, rfl, ?_⟩
    cases k with
    | true =>
      rw [if_pos rfl]
      exact ho _ H1 (Ex.refl H1) (.bl true)
    | false =>
      rw [if_neg Bool.false_ne_true]
      exact ⟨ρ, hr.ext e1, ho⟩
  | _ => exact ho.elim
theorem pd_not (h : PD G E X a f) : PD G E X (.UnaryOp .Not a pos) (vNt f) := by
  refine pe_imp (L2.pe_not h) ?_
  rintro σ H Q ⟨ρ, hr, ho⟩
  refine ⟨ρ, hr, (Out.bind (rel := Rp X.K) ho).mono ?_⟩
  rintro x H1 e1 - ⟨d, hd, _, hx, ho⟩
  cases d with
  | bool k =>
    cases hx
    exact ⟨k, rfl, ho _ H1 (Ex.refl H1) (.bl _)⟩
  | _ => exact ho.elim
theorem pd_ite {t : Expr} (ht : PDT G E X t c) (ha : PD G E X a f) (hb : PD G E X b g) : PD G E X (.IfExp t a b pos) (eIf c f g) := by
  refine pe_imp (pe_ifExp ht ha hb) ?_
  rintro σ H Q ⟨ρ, hr, ho⟩
  refine ⟨ρ, hr, (Out.bind (rel := rB) ho).mono ?_⟩
  rintro k H1 e1 - ⟨k', hk, _, hb, ho⟩
  cases hb
  cases k with
  | true =>
    rw [if_pos rfl] at ho ⊢
    exact ⟨ρ, hr.ext e1, ho⟩
  | false =>
    rw [if_neg Bool.false_ne_true] at ho ⊢
    exact ⟨ρ, hr.ext e1, ho⟩
end
end DL
set_option Elab.async false
set_option linter.all false
set_option maxRecDepth 100000
set_option maxHeartbeats 4000000
/-! DL2: the operators, the built-ins, the slices by plain data. -/
namespace DL
open PySem PySem.Spec PyProof.Rows L2

theorem OpR_or {X : Cx} {f : Value → Value → Sem Value} {r r' : R2} (h : OpR X f r) (h' : OpR X f r') : OpR X f (fun x y H Q => r x y H Q ∨ r' x y H Q) := by
  intro pins s σ H x y v u Q I rx ry q
  rcases q with q | q
  · exact h pins s σ H x y v u Q I rx ry q
  · exact h' pins s σ H x y v u Q I rx ry q

section
variable {X : Cx} {K : PySem.W.Frag} {G : Gd} {E : XK}
theorem Rd.its {pins : List (Addr × Obj)} {σ : L2.St} {H : Hp} {s : Shared} {l : Addr} {xs : List V} (I : Inv X pins σ H s) (h : Rd H l (.lst xs)) :
    ∃ (its : List Value) (n : Nat), xs.length ≤ sizeLine ∧ Vals xs its ∧ xs.length = its.length ∧ s.heap.get? l = some { cls := .type "list", data := .seq its.toArray n } := by
  have q := h.ok I.hok
  obtain ⟨z, its, n, r, e⟩ := q
  exact ⟨its, n, z, r, r.length, e⟩

/-! ### + -/
def rCatL : R2 := fun x y H Q => ∃ l b xs zs, x = .ref l ∧ y = .ref b ∧ Rd H l (.lst xs) ∧ Rd H b (.lst zs) ∧ xs.length + zs.length ≤ sizeLine ∧ ∀ p, H p = none → Q (.ref p) (upd H p (.lst (xs ++ zs)))
theorem op_catL : OpR X (binaryOp .Add) rCatL := by
  intro pins s σ H x y v u Q I rx ry h
  obtain ⟨l, b, xs, zs, rfl, rfl, hl, hb, hz, q⟩ := h
  cases rx; cases ry
  obtain ⟨i1, n1, z1, r1, l1, e1⟩ := Rd.its I hl
  obtain ⟨i2, n2, z2, r2, l2, e2⟩ := Rd.its I hb
  refine PySem.P.add_list e1 e2 ?_ (by simp only [List.size_toArray]; omega)
  rw [show i1.toArray ++ i2.toArray = (i1 ++ i2).toArray by simp]
  exact ⟨.ref _, _, I.lnew (r1.append r2) (by simp only [List.length_append]; omega), rfl, q _ I.fresh⟩
def rAddAll (K : PySem.W.Frag) : R2 := fun x y H Q => ((rI0 fun i j => .int (i + j)) x y H Q ∨ (∃ i j, x = .str i ∧ y = .str j ∧ i.length + j.length ≤ sizeLine ∧ Q (.str (i ++ j)) H)) ∨ (rCatL x y H Q ∨ rCatA K x y H Q)
theorem op_addAll : OpR X (binaryOp .Add) (rAddAll X.K) := OpR_or (OpR_or op_add op_add_str) (OpR_or op_catL op_catA)
def dAdd : D → D → R D
  | .int i, .int j => .ok (.int (i + j))
  | .str a, .str b => if a.length + b.length ≤ 100000 then .ok (.str (a ++ b)) else .bad
  | .list a, .list b => if a.length + b.length ≤ 100000 then .ok (.list (a ++ b)) else .bad
  | .tuple a, .tuple b => if a.length + b.length ≤ 100000 then .ok (.tuple (a ++ b)) else .bad
  | _, _ => .bad
theorem RpAll.nil_iff {H : Hp} {vs : List V} {ds : List D} (h : RpAll K H vs ds) : vs = [] ↔ ds = [] := by
  cases h with
  | nil => simp
  | cons _ _ => simp
theorem ok_add : OkOp G E K (rAddAll K) dAdd := by
  intro H x y d1 d2 Q bd h1 h2 ho
  unfold dAdd at ho
  split at ho
  · cases h1; cases h2
    exact .inl (.inl ⟨_, _, rfl, rfl, ho _ H (Ex.refl H) (.int _)⟩)
  · rename_i a b
    cases h1; cases h2
    by_cases hz : a.length + b.length ≤ 100000
    · rw [if_pos hz] at ho
      exact .inl (.inr ⟨_, _, rfl, rfl, small100k hz, ho _ H (Ex.refl H) (.str _)⟩)
    · rw [if_neg hz] at ho
      exact ho.elim
  · rename_i a b
    by_cases hz : a.length + b.length ≤ 100000
    · rw [if_pos hz] at ho
      cases h1 with
      | lst a1 b1 =>
        cases h2 with
        | lst a2 b2 =>
          refine .inr (.inl ⟨_, _, _, _, rfl, rfl, a1, a2, small100k (by rw [RpAll.len b1, RpAll.len b2]; exact hz), fun p hp => ?_⟩)
          exact ho _ _ (Ex.new hp) (.lst (.inl upd_same) ((Ex.new (T := G.T) hp).rps (RpAll.app b1 b2)))
    · rw [if_neg hz] at ho
      exact ho.elim
  · rename_i a b
    by_cases hz : a.length + b.length ≤ 100000
    · rw [if_pos hz] at ho
      cases h1 with
      | tup a1 b1 =>
        cases h2 with
        | tup a2 b2 =>
          refine .inr (.inr ⟨_, _, _, _, rfl, rfl, a1, a2, small100k (by rw [RpAll.len b1, RpAll.len b2]; exact hz), fun e => ?_, fun e1 e2 => ?_, fun e1 e2 p hp => ?_⟩)
          · have q := (RpAll.nil_iff b1).mp e
            subst q
            exact ho _ H (Ex.refl H) (.tup a2 (by simpa using b2))
          · have q := (RpAll.nil_iff b2).mp e2
            subst q
            exact ho _ H (Ex.refl H) (.tup a1 (by simpa using b1))
          · exact ho _ _ (Ex.new hp) (.tup (SqT.of upd_same) ((Ex.new (T := G.T) hp).rps (RpAll.app b1 b2)))
    · rw [if_neg hz] at ho
      exact ho.elim
  · exact ho.elim
/-! ### -, *, %, // -/
def dSub : D → D → R D
  | .int i, .int j => .ok (.int (i - j))
  | _, _ => .bad
theorem ok_sub : OkOp G E K (rI0 fun i j => .int (i - j)) dSub := by
  intro H x y d1 d2 Q bd h1 h2 ho
  unfold dSub at ho
  split at ho
  · cases h1; cases h2
    exact ⟨_, _, rfl, rfl, ho _ H (Ex.refl H) (.int _)⟩
  · exact ho.elim
def rRepL : R2 := fun x y H Q => ∃ l k xs, x = .ref l ∧ y = .int k ∧ H l = some (.lst xs) ∧ -(2 ^ 63) ≤ k ∧ k < 2 ^ 63 ∧ xs.length * k.toNat ≤ sizeLine ∧ ∀ p, H p = none → Q (.ref p) (upd H p (.lst (List.replicate k.toNat xs).flatten))
def rMulAll : R2 := fun x y H Q => (rI CMul fun i j => .int (i * j)) x y H Q ∨ (rI CMulW fun i j => .int (i * j)) x y H Q
theorem op_mulAll : OpR X (binaryOp .Mult) rMulAll := OpR_or op_mul op_mulW
/-- one factor small, or both below 2 ^ 1000 -/
def MulOk (i j : Int) : Prop := ((-(2 ^ 64) < i ∧ i < 2 ^ 64) ∨ (-(2 ^ 64) < j ∧ j < 2 ^ 64)) ∨ (i.natAbs < 2 ^ 1000 ∧ j.natAbs < 2 ^ 1000)
instance (i j : Int) : Decidable (MulOk i j) := by unfold MulOk; infer_instance
def dMul : D → D → R D
  | .int i, .int j => if MulOk i j then .ok (.int (i * j)) else .bad
  | _, _ => .bad
theorem ok_mul : OkOp G E K rMulAll dMul := by
  intro H x y d1 d2 Q bd h1 h2 ho
  unfold dMul at ho
  split at ho
  · rename_i i j
    cases h1; cases h2
    by_cases hm : MulOk i j
    · rw [if_pos hm] at ho
      have q := ho _ H (Ex.refl H) (.int _)
      rcases hm with hm | ⟨ha, hb⟩
      · exact .inl ⟨_, _, rfl, rfl, hm, q⟩
      · exact .inr ⟨_, _, rfl, rfl, wide_mul ha hb (by decide) (by decide) (by decide), q⟩
    · rw [if_neg hm] at ho
      exact ho.elim
  · exact ho.elim
def dMod : D → D → R D
  | .int i, .int j => if 0 < j then .ok (.int (i % j)) else .bad
  | _, _ => .bad
theorem ok_mod : OkOp G E K (rI (fun _ j => 0 < j) fun i j => .int (i % j)) dMod := by
  intro H x y d1 d2 Q bd h1 h2 ho
  unfold dMod at ho
  split at ho
  · rename_i i j
    cases h1; cases h2
    by_cases hm : 0 < j
    · rw [if_pos hm] at ho
      exact ⟨_, _, rfl, rfl, hm, ho _ H (Ex.refl H) (.int _)⟩
    · rw [if_neg hm] at ho
      exact ho.elim
  · exact ho.elim
def dFdiv : D → D → R D
  | .int i, .int j => if 0 < j ∧ j.natAbs < 2 ^ 1000 then .ok (.int (i / j)) else .bad
  | _, _ => .bad
theorem ok_fdiv : OkOp G E K (rI CDivW fun i j => .int (i / j)) dFdiv := by
  intro H x y d1 d2 Q bd h1 h2 ho
  unfold dFdiv at ho
  split at ho
  · rename_i i j
    cases h1; cases h2
    by_cases hm : 0 < j ∧ j.natAbs < 2 ^ 1000
    · rw [if_pos hm] at ho
      exact ⟨_, _, rfl, rfl, wide_div hm.1 hm.2 (by decide) (by decide), ho _ H (Ex.refl H) (.int _)⟩
    · rw [if_neg hm] at ho
      exact ho.elim
  · exact ho.elim
def dNeg : D → R D
  | .int i => .ok (.int (-i))
  | _ => .bad
theorem ok_neg (H : Hp) (x : V) (d : D) (Q : VK) (h : Rp K H x d) (ho : Out G E (Rp K) H (dNeg d) Q) : (rU fun i => .int (-i)) x H Q := by
  unfold dNeg at ho
  split at ho
  · cases h
    exact ⟨_, rfl, ho _ H (Ex.refl H) (.int _)⟩
  · exact ho.elim
/-! ### comparisons -/
def dEq (a b : D) : R D := if SeqAt.shaped a = true ∧ SeqAt.shaped b = true then .ok (.bool (PyData.eqv a b)) else .bad
def dNe (a b : D) : R D := if SeqAt.shaped a = true ∧ SeqAt.shaped b = true then .ok (.bool (!PyData.eqv a b)) else .bad
theorem ok_eq : OkOp G E K (rEqD K) dEq := by
  intro H x y d1 d2 Q bd h1 h2 ho
  unfold dEq at ho
  by_cases hm : SeqAt.shaped d1 = true ∧ SeqAt.shaped d2 = true
  · rw [if_pos hm] at ho
    exact ⟨d1, d2, h1.dp hm.1, h2.dp hm.2, hm.1, hm.2, ho _ H (Ex.refl H) (.bl _)⟩
  · rw [if_neg hm] at ho
    exact ho.elim
theorem ok_ne : OkOp G E K (rNeD K) dNe := by
  intro H x y d1 d2 Q bd h1 h2 ho
  unfold dNe at ho
  by_cases hm : SeqAt.shaped d1 = true ∧ SeqAt.shaped d2 = true
  · rw [if_pos hm] at ho
    exact ⟨d1, d2, h1.dp hm.1, h2.dp hm.2, hm.1, hm.2, ho _ H (Ex.refl H) (.bl _)⟩
  · rw [if_neg hm] at ho
    exact ho.elim
def dOrd (p : Int → Int → Bool) : D → D → R D
  | .int i, .int j => .ok (.bool (p i j))
  | _, _ => .bad
theorem ok_ord (p : Int → Int → Bool) : OkOp G E K (rI0 fun i j => .bl (p i j)) (dOrd p) := by
  intro H x y d1 d2 Q bd h1 h2 ho
  unfold dOrd at ho
  split at ho
  · cases h1; cases h2
    exact ⟨_, _, rfl, rfl, ho _ H (Ex.refl H) (.bl _)⟩
  · exact ho.elim
def pLt (i j : Int) : Bool := decide (i < j)
def pLe (i j : Int) : Bool := decide (i ≤ j)
def pGt (i j : Int) : Bool := decide (j < i)
def pGe (i j : Int) : Bool := decide (j ≤ i)
theorem op_ltD : OpR X (compareOp .Lt) (rI0 fun i j => .bl (pLt i j)) := op_lt
theorem op_leD : OpR X (compareOp .LtE) (rI0 fun i j => .bl (pLe i j)) := op_le
theorem op_gtD : OpR X (compareOp .Gt) (rI0 fun i j => .bl (pGt i j)) := op_gt
theorem op_geD : OpR X (compareOp .GtE) (rI0 fun i j => .bl (pGe i j)) := op_ge
def isNo : D → Bool
  | .none => true
  | _ => false
theorem rp_none {H : Hp} {x : V} {d : D} (h : Rp K H x d) : decide (x = .non) = isNo d := by
  cases h <;> simp [isNo]
def dIs : D → D → R D
  | .bool a, .bool b => .ok (.bool (decide (a = b)))
  | a, .none => .ok (.bool (isNo a))
  | _, _ => .bad
def dIsNot : D → D → R D
  | .bool a, .bool b => .ok (.bool (!decide (a = b)))
  | a, .none => .ok (.bool (!isNo a))
  | _, _ => .bad
theorem op_isAll : OpR X (compareOp .Is) (fun x y H Q => rIsB x y H Q ∨ (y = .non ∧ Q (.bl (decide (x = .non))) H)) := OpR_or op_isBl op_isN
theorem op_notAll : OpR X (compareOp .IsNot) (fun x y H Q => rNotB x y H Q ∨ (y = .non ∧ Q (.bl (!decide (x = .non))) H)) := OpR_or op_notBl op_notN
theorem ok_is : OkOp G E K (fun x y H Q => rIsB x y H Q ∨ (y = .non ∧ Q (.bl (decide (x = .non))) H)) dIs := by
  intro H x y d1 d2 Q bd h1 h2 ho
  unfold dIs at ho
  split at ho
  · cases h1; cases h2
    exact .inl ⟨_, _, rfl, rfl, ho _ H (Ex.refl H) (.bl _)⟩
  · cases h2
    refine .inr ⟨rfl, ?_⟩
    rw [rp_none h1]
    exact ho _ H (Ex.refl H) (.bl _)
  · exact ho.elim
theorem ok_isNot : OkOp G E K (fun x y H Q => rNotB x y H Q ∨ (y = .non ∧ Q (.bl (!decide (x = .non))) H)) dIsNot := by
  intro H x y d1 d2 Q bd h1 h2 ho
  unfold dIsNot at ho
  split at ho
  · cases h1; cases h2
    exact .inl ⟨_, _, rfl, rfl, ho _ H (Ex.refl H) (.bl _)⟩
  · cases h2
    refine .inr ⟨rfl, ?_⟩
    rw [rp_none h1]
    exact ho _ H (Ex.refl H) (.bl _)
  · exact ho.elim
/-! ### in, not in: lists of data, tuples of flat things, one sign in a text -/
def flatD : D → Bool
  | .none => true
  | .bool _ => true
  | .int _ => true
  | .str _ => true
  | _ => false
theorem flat_rp {H : Hp} {x : V} {d : D} (h : Rp K H x d) : flatV x = flatD d := by
  cases h <;> rfl
theorem eqV_rp {H : Hp} {x y : V} {d e : D} (h : Rp K H x d) (h' : Rp K H y e) (fd : flatD d = true) (fe : flatD e = true) : eqV x y = PyData.eqv d e := by
  cases h <;> cases h' <;> first
    | rfl
    | exact absurd (show false = true from fd) Bool.false_ne_true
    | exact absurd (show false = true from fe) Bool.false_ne_true
theorem flats_rp {H : Hp} : ∀ {vs : List V} {ds : List D}, RpAll K H vs ds → vs.all flatV = ds.all flatD
  | _, _, .nil => rfl
  | _, _, .cons h1 h2 => by rw [List.all_cons, List.all_cons, flat_rp h1, flats_rp h2]
theorem inV_rp {H : Hp} {x : V} {d : D} (h : Rp K H x d) (fd : flatD d = true) : ∀ {vs : List V} {ds : List D}, RpAll K H vs ds → ds.all flatD = true → inV x vs = ds.any fun z => PyData.eqv z d
  | _, _, .nil, _ => rfl
  | v :: vs, e :: ds, .cons h1 h2, f => by
    rw [List.all_cons, Bool.and_eq_true] at f
    unfold inV
    rw [List.any_cons, List.any_cons, eqV_rp h1 h f.1 fd]
    have q := inV_rp h fd h2 f.2
    unfold inV at q
    rw [q]
def dIn (neg : Bool) (d : D) : D → R D
  | .list ds => if SeqAt.shaped d = true ∧ SeqAt.shaped (.list ds) = true then .ok (.bool (if neg then !(ds.any fun z => PyData.eqv z d) else ds.any fun z => PyData.eqv z d)) else .bad
  | .tuple ds => if flatD d = true ∧ ds.all flatD = true then .ok (.bool (if neg then !(ds.any fun z => PyData.eqv z d) else ds.any fun z => PyData.eqv z d)) else .bad
  | .str z => match d with
    | .str ⟨⟨[c]⟩⟩ => .ok (.bool (if neg then !decide (c ∈ z.cps.toList) else decide (c ∈ z.cps.toList)))
    | _ => .bad
  | _ => .bad
def rInAll (K : PySem.W.Frag) : R2 := fun x y H Q => rInD K x y H Q ∨ (rIn K false x y H Q ∨ ∃ (c : Nat) (z : Str), x = .str ⟨#[c]⟩ ∧ y = .str z ∧ Q (.bl (decide (c ∈ z.cps.toList))) H)
def rNotInAll (K : PySem.W.Frag) : R2 := fun x y H Q => rNotInD K x y H Q ∨ (rIn K true x y H Q ∨ ∃ (c : Nat) (z : Str), x = .str ⟨#[c]⟩ ∧ y = .str z ∧ Q (.bl (!decide (c ∈ z.cps.toList))) H)
theorem op_inAll (hu : X.A.units + 65 < cLine) : OpR X (compareOp .In) (rInAll X.K) := OpR_or (op_inD hu) (OpR_or op_in_seq op_in_sign)
theorem op_notInAll (hu : X.A.units + 65 < cLine) : OpR X (compareOp .NotIn) (rNotInAll X.K) := OpR_or (op_notInD hu) (OpR_or op_notIn_seq op_notIn_sign)
theorem ok_in : OkOp G E K (rInAll K) (dIn false) := by
  intro H x y d1 d2 Q bd h1 h2 ho
  unfold dIn at ho
  split at ho
  · rename_i ds
    by_cases hm : SeqAt.shaped d1 = true ∧ SeqAt.shaped (.list ds) = true
    · rw [if_pos hm] at ho
      exact .inl ⟨d1, ds, h1.dp hm.1, h2.dp hm.2, hm.1, hm.2, ho _ H (Ex.refl H) (.bl _)⟩
    · rw [if_neg hm] at ho
      exact ho.elim
  · rename_i ds
    by_cases hm : flatD d1 = true ∧ ds.all flatD = true
    · rw [if_pos hm] at ho
      cases h2 with
      | tup a b =>
        refine .inr (.inl ⟨_, _, rfl, .inr a, by rw [flat_rp h1]; exact hm.1, by rw [flats_rp b]; exact hm.2, ?_⟩)
        rw [inV_rp h1 hm.1 b hm.2]
        exact ho _ H (Ex.refl H) (.bl _)
    · rw [if_neg hm] at ho
      exact ho.elim
  · split at ho
    · cases h1; cases h2
      exact .inr (.inr ⟨_, _, rfl, rfl, ho _ H (Ex.refl H) (.bl _)⟩)
    · exact ho.elim
  · exact ho.elim
theorem ok_notIn : OkOp G E K (rNotInAll K) (dIn true) := by
  intro H x y d1 d2 Q bd h1 h2 ho
  unfold dIn at ho
  split at ho
  · rename_i ds
    by_cases hm : SeqAt.shaped d1 = true ∧ SeqAt.shaped (.list ds) = true
    · rw [if_pos hm] at ho
      exact .inl ⟨d1, ds, h1.dp hm.1, h2.dp hm.2, hm.1, hm.2, ho _ H (Ex.refl H) (.bl _)⟩
    · rw [if_neg hm] at ho
      exact ho.elim
  · rename_i ds
    by_cases hm : flatD d1 = true ∧ ds.all flatD = true
    · rw [if_pos hm] at ho
      cases h2 with
      | tup a b =>
        refine .inr (.inl ⟨_, _, rfl, .inr a, by rw [flat_rp h1]; exact hm.1, by rw [flats_rp b]; exact hm.2, ?_⟩)
        rw [inV_rp h1 hm.1 b hm.2]
        exact ho _ H (Ex.refl H) (.bl _)
    · rw [if_neg hm] at ho
      exact ho.elim
  · split at ho
    · cases h1; cases h2
      exact .inr (.inr ⟨_, _, rfl, rfl, ho _ H (Ex.refl H) (.bl _)⟩)
    · exact ho.elim
  · exact ho.elim
/-! ### a[i] -/
def dIx : D → D → R D
  | .list ds, .int i => match atI ds i with
    | some d => .ok d
    | none => .bad
  | .tuple ds, .int i => match atI ds i with
    | some d => .ok d
    | none => .bad
  | .str z, .int i => if z.length ≤ 100000 then (match atI z.cps.toList i with
    | some c => .ok (.str ⟨#[c]⟩)
    | none => .bad) else .bad
  | _, _ => .bad
theorem at_rp {H : Hp} {vs : List V} {ds : List D} {i : Int} {d : D} (h : RpAll K H vs ds) (e : atI ds i = some d) : ∃ v, atI vs i = some v ∧ Rp K H v d := by
  unfold atI at e ⊢
  rw [RpAll.len h]
  cases q : ixN ds.length i with
  | none => rw [q] at e; cases e
  | some j =>
    rw [q] at e
    exact RpAll.get h e
theorem ok_ix : OkOp G E K (rIx K) dIx := by
  intro H x y d1 d2 Q bd h1 h2 ho
  unfold dIx at ho
  split at ho
  · split at ho
    · rename_i ds i d e
      cases h2
      cases h1 with
      | lst a b =>
        obtain ⟨v, hv, hd⟩ := at_rp b e
        exact .inl ⟨_, _, _, _, rfl, rfl, .inl a, hv, ho _ H (Ex.refl H) hd⟩
    · exact ho.elim
  · split at ho
    · rename_i ds i d e
      cases h2
      cases h1 with
      | tup a b =>
        obtain ⟨v, hv, hd⟩ := at_rp b e
        exact .inr (.inl ⟨_, _, _, _, rfl, rfl, a, hv, ho _ H (Ex.refl H) hd⟩)
    · exact ho.elim
  · rename_i z i
    by_cases hz : z.length ≤ 100000
    · rw [if_pos hz] at ho
      split at ho
      · rename_i c e
        cases h1; cases h2
        exact .inr (.inr ⟨_, _, _, rfl, rfl, small100k hz, e, ho _ H (Ex.refl H) (.str _)⟩)
      · exact ho.elim
    · rw [if_neg hz] at ho
      exact ho.elim
  · exact ho.elim
end

/-! ### the words as rules -/
section
variable {G : Gd} {E : XK} {X : Cx} {a b c e : Expr} {es : List Expr} {f g h : DE → R D} {fs : DE → R (List D)} {pos : Pos}
theorem pd_add (ha : PD G E X a f) (hb : PD G E X b g) : PD G E X (.BinOp a .Add b pos) (eOp dAdd f g) := pd_bin op_addAll ok_add ha hb
theorem pd_sub (ha : PD G E X a f) (hb : PD G E X b g) : PD G E X (.BinOp a .Sub b pos) (eOp dSub f g) := pd_bin op_sub ok_sub ha hb
theorem pd_mul (ha : PD G E X a f) (hb : PD G E X b g) : PD G E X (.BinOp a .Mult b pos) (eOp dMul f g) := pd_bin op_mulAll ok_mul ha hb
theorem pd_mod (ha : PD G E X a f) (hb : PD G E X b g) : PD G E X (.BinOp a .Mod b pos) (eOp dMod f g) := pd_bin op_mod ok_mod ha hb
theorem pd_fdiv (ha : PD G E X a f) (hb : PD G E X b g) : PD G E X (.BinOp a .FloorDiv b pos) (eOp dFdiv f g) := pd_bin op_fdivW ok_fdiv ha hb
theorem pd_neg (ha : PD G E X a f) : PD G E X (.UnaryOp .USub a pos) (eUn dNeg f) := pd_un un_neg ok_neg ha
theorem pd_eq (hu : X.A.units + 64 < cLine) (ha : PD G E X a f) (hb : PD G E X b g) : PD G E X (.Compare a [.Eq] [b] pos) (eOp dEq f g) := pd_cmp (op_eqD hu) ok_eq ha hb (nomark _)
theorem pd_ne (hu : X.A.units + 64 < cLine) (ha : PD G E X a f) (hb : PD G E X b g) : PD G E X (.Compare a [.NotEq] [b] pos) (eOp dNe f g) := pd_cmp (op_neD hu) ok_ne ha hb (nomark _)
theorem pd_lt (ha : PD G E X a f) (hb : PD G E X b g) : PD G E X (.Compare a [.Lt] [b] pos) (eOp (dOrd pLt) f g) := pd_cmp op_ltD (ok_ord _) ha hb (nomark _)
theorem pd_le (ha : PD G E X a f) (hb : PD G E X b g) : PD G E X (.Compare a [.LtE] [b] pos) (eOp (dOrd pLe) f g) := pd_cmp op_leD (ok_ord _) ha hb (nomark _)
theorem pd_gt (ha : PD G E X a f) (hb : PD G E X b g) : PD G E X (.Compare a [.Gt] [b] pos) (eOp (dOrd pGt) f g) := pd_cmp op_gtD (ok_ord _) ha hb (nomark _)
theorem pd_ge (ha : PD G E X a f) (hb : PD G E X b g) : PD G E X (.Compare a [.GtE] [b] pos) (eOp (dOrd pGe) f g) := pd_cmp op_geD (ok_ord _) ha hb (nomark _)
theorem pd_is (ha : PD G E X a f) (hb : PD G E X b g) : PD G E X (.Compare a [.Is] [b] pos) (eOp dIs f g) := pd_cmp op_isAll ok_is ha hb (nomark _)
theorem pd_isNot (ha : PD G E X a f) (hb : PD G E X b g) : PD G E X (.Compare a [.IsNot] [b] pos) (eOp dIsNot f g) := pd_cmp op_notAll ok_isNot ha hb (nomark _)
theorem pd_in (hu : X.A.units + 65 < cLine) (ha : PD G E X a f) (hb : PD G E X b g) (hm : behindInMarks .In b = false := by rfl) : PD G E X (.Compare a [.In] [b] pos) (eOp (dIn false) f g) := pd_cmp (op_inAll hu) ok_in ha hb hm
theorem pd_notIn (hu : X.A.units + 65 < cLine) (ha : PD G E X a f) (hb : PD G E X b g) (hm : behindInMarks .NotIn b = false := by rfl) : PD G E X (.Compare a [.NotIn] [b] pos) (eOp (dIn true) f g) := pd_cmp (op_notInAll hu) ok_notIn ha hb hm
theorem pd_item (ha : PD G E X a f) (hb : PD G E X b g) (hp : PlainIx b := by exact (fun _ _ => rfl)) : PD G E X (.Subscript a b pos) (eOp dIx f g) := pd_ix ix_seq ok_ix ha hb hp
/-- a op b op' c of ints -/
def eChain (p q : Int → Int → Bool) (f g h : DE → R D) : DE → R D := fun ρ => (f ρ).bind fun x => (g ρ).bind fun y => match x, y with
  | .int i, .int j => if p i j = true then (h ρ).bind fun z => (match z with
    | .int k => .ok (.bool (q j k))
    | _ => .bad) else .ok (.bool false)
  | _, _ => .bad
theorem pd_chain {op op' : CmpOp} {p q : Int → Int → Bool} (ho : OpR X (compareOp op) (rI0 fun i j => .bl (p i j))) (ho' : OpR X (compareOp op') (rI0 fun i j => .bl (q i j))) (ha : PD G E X a f) (hb : PD G E X b g) (hc : PD G E X c h)
    (hm : lastMarks [op, op'] [b, c] = false := by with_unfolding_all rfl) : PD G E X (.Compare a [op, op'] [b, c] pos) (eChain p q f g h) := by
  refine pe_imp (pe_chain ho ho' ha hb hc hm) ?_
  rintro σ H Q ⟨ρ, hr, ho⟩
  refine ⟨ρ, hr, (Out.bind (rel := Rp X.K) ho).mono ?_⟩
  rintro x H1 e1 - ⟨d1, hd1, _, hx, ho⟩
  refine ⟨ρ, hr.ext e1, (Out.bind (rel := Rp X.K) ho).mono ?_⟩
  rintro y H2 e2 - ⟨d2, hd2, _, hy, ho⟩
  cases d1 with
  | int i =>
    cases d2 with
    | int j =>
      cases hx; cases hy
      refine ⟨i, j, rfl, rfl, p i j, rfl, ?_⟩
      have ho : Out G E (Rp X.K) H2 (if p i j = true then (h ρ).bind fun z => (match z with
        | .int k => R.ok (PyData.bool (q j k))
        | _ => .bad) else .ok (.bool false)) Q := ho
      cases hp : p i j with
      | true =>
        rw [hp, if_pos rfl] at ho
        rw [if_pos rfl]
        refine ⟨ρ, (hr.ext e1).ext e2, (Out.bind (rel := Rp X.K) ho).mono ?_⟩
        rintro z H3 e3 - ⟨d3, hd3, _, hz, ho⟩
        cases d3 with
        | int k =>
          cases hz
          exact ⟨_, _, rfl, rfl, ho _ H3 (Ex.refl H3) (.bl _)⟩
        | _ => exact ho.elim
      | false =>
        rw [hp, if_neg Bool.false_ne_true] at ho
        rw [if_neg Bool.false_ne_true]
        exact ho _ H2 (Ex.refl H2) (.bl false)
    | _ => exact ho.elim
  | _ => exact ho.elim

/-! ### slices -/
def PDO (G : Gd) (E : XK) (X : Cx) (e : Option Expr) (f : DE → R (Option Int)) : Prop := PO X e (fun σ H Q => ∃ ρ, RepE G X.K H σ ρ ∧ Out G E (fun _ a b => a = b) H (f ρ) Q)
def oNone : DE → R (Option Int) := fun _ => .ok none
def oSome (f : DE → R D) : DE → R (Option Int) := fun ρ => (f ρ).bind fun d => match d with
  | .int i => .ok (some i)
  | _ => .bad
theorem pdo_none : PDO G E X none oNone := ⟨fun pins s σ H Q I ⟨ρ, hr, ho⟩ => (po_none (X := X)).run pins s σ H Q I (ho none H (Ex.refl H) rfl)⟩
theorem pdo_some (h : PD G E X e f) : PDO G E X (some e) (oSome f) := ⟨fun pins s σ H Q I q => (po_some h).run pins s σ H Q I (by
  obtain ⟨ρ, hr, ho⟩ := q
  refine ⟨ρ, hr, (Out.bind (rel := Rp X.K) ho).mono ?_⟩
  rintro x H1 e1 - ⟨d, hd, _, hx, ho⟩
  split at ho
  · cases hx
    exact ⟨_, rfl, ho _ H1 (Ex.refl H1) rfl⟩
  · exact ho.elim)⟩
def cutD (xs : List D) (lo hi : Option Int) : List D := (xs.drop (HT.sIx xs.length 0 lo)).take (HT.sIx xs.length xs.length hi - HT.sIx xs.length 0 lo)
def dSl (d : D) (lo hi : Option Int) : R D := match d with
  | .list ds => .ok (.list (cutD ds lo hi))
  | .tuple ds => .ok (.tuple (cutD ds lo hi))
  | .str z => if z.length ≤ 100000 then .ok (.str (cutS z lo hi)) else .bad
  | _ => .bad
def eSl (f : DE → R D) (lo hi : DE → R (Option Int)) : DE → R D := fun ρ => (f ρ).bind fun d => (lo ρ).bind fun l => (hi ρ).bind fun u => dSl d l u
theorem cut_rp {K : PySem.W.Frag} {H : Hp} {vs : List V} {ds : List D} (h : RpAll K H vs ds) (lo hi : Option Int) : RpAll K H (cutV vs lo hi) (cutD ds lo hi) := by
  unfold cutV cutD
  rw [RpAll.len h]
  exact (h.drop _).take _
theorem cut_whole {ds : List D} {lo hi : Option Int} (h1 : HT.sIx ds.length 0 lo = 0) (h2 : HT.sIx ds.length ds.length hi = ds.length) : cutD ds lo hi = ds := by
  unfold cutD
  rw [h1, h2]
  simp
theorem pd_slice {lo hi : Option Expr} {fl fh : DE → R (Option Int)} {p2 : Pos} (he : PD G E X e f) (hl : PDO G E X lo fl) (hh : PDO G E X hi fh) : PD G E X (.Subscript e (.Slice lo hi none p2) pos) (eSl f fl fh) := by
  refine pe_imp (pe_slice ((sl_list (X := X)).or (sl_tupA.or sl_str)) he hl hh) ?_
  rintro σ H Q ⟨ρ, hr, ho⟩
  refine ⟨ρ, hr, (Out.bind (rel := Rp X.K) ho).mono ?_⟩
  rintro x H1 e1 - ⟨d1, hd1, _, hx, ho⟩
  refine ⟨ρ, hr.ext e1, (Out.bind (rel := fun _ a b => a = b) ho).mono ?_⟩
  rintro l H2 e2 - ⟨d2, hd2, _, hl, ho⟩
  refine ⟨ρ, (hr.ext e1).ext e2, (Out.bind (rel := fun _ a b => a = b) ho).mono ?_⟩
  rintro u H3 e3 - ⟨d3, hd3, _, hu, ho⟩
  have hl : l = d2 := hl
  have hu : u = d3 := hu
  subst hl hu
  have hx3 := (e2.trans e3).rp hx
  cases d1 with
  | list ds =>
    cases hx3 with
    | lst a b => exact .inl ⟨_, _, rfl, .inl a, fun p hp => ho _ _ (Ex.new hp) (.lst (.inl upd_same) ((Ex.new (T := G.T) hp).rps (cut_rp b l u)))⟩
  | tuple ds =>
    cases hx3 with
    | tup a b =>
      have hn := RpAll.len b
      refine .inr (.inl ⟨_, _, rfl, a, fun q => ?_, fun q p hp => ?_⟩)
      · rw [hn] at q
        have ho : Out G E (Rp X.K) H3 (.ok (.tuple (cutD ds l u))) Q := ho
        rw [cut_whole q.1 q.2] at ho
        exact ho _ H3 (Ex.refl H3) (.tup a b)
      · exact ho _ _ (Ex.new hp) (.tup (SqT.of upd_same) ((Ex.new (T := G.T) hp).rps (cut_rp b l u)))
  | str z =>
    have ho : Out G E (Rp X.K) H3 (if z.length ≤ 100000 then R.ok (PyData.str (cutS z l u)) else .bad) Q := ho
    by_cases hz : z.length ≤ 100000
    · rw [if_pos hz] at ho
      cases hx3
      exact .inr (.inr ⟨_, rfl, small100k hz, ho _ H3 (Ex.refl H3) (.str _)⟩)
    · rw [if_neg hz] at ho
      exact ho.elim
  | _ => exact ho.elim
def dRev : D → R D
  | .list ds => .ok (.list ds.reverse)
  | _ => .bad
theorem pd_rev {k : Nat} {p1 p2 p3 : Pos} (he : PD G E X e f) : PD G E X (.Subscript e (.Slice none none (some (.UnaryOp .USub (.Constant (.int 1) k p1) p2)) p3) pos) (eUn dRev f) := by
  refine pe_imp (pe_revL he) ?_
  rintro σ H Q ⟨ρ, hr, ho⟩
  refine ⟨ρ, hr, (Out.bind (rel := Rp X.K) ho).mono ?_⟩
  rintro x H1 e1 - ⟨d1, hd1, _, hx, ho⟩
  unfold dRev at ho
  split at ho
  · cases hx with
    | lst a b => exact ⟨_, _, rfl, .inl a, fun p hp => ho _ _ (Ex.new hp) (.lst (.inl upd_same) ((Ex.new (T := G.T) hp).rps (RpAll.rev b)))⟩
  · exact ho.elim

/-! ### built-ins -/
theorem pa_bd {X : Cx} {es : List Expr} {t : TA} (h : PA X es t) : PA X es (fun σ H Q => t σ H fun v H1 => Bd X.K H1 → Q v H1) := ⟨fun pos pins s σ H Q I q => by
  refine thn (h.run pos pins s σ H _ I q) fun u s' hs => ?_
  obtain ⟨v, H', I', r, k⟩ := hs
  exact ⟨v, H', I', r, k (bd_of I')⟩⟩
def eCall (o : List D → R D) (fs : DE → R (List D)) : DE → R D := fun ρ => (fs ρ).bind o
def OkCall (G : Gd) (E : XK) (K : PySem.W.Frag) (r : List V → Hp → VK → Prop) (o : List D → R D) : Prop := ∀ (H : Hp) (xs : List V) (ds : List D) (Q : VK), Bd K H → RpAll K H xs ds → Out G E (Rp K) H (o ds) Q → r xs H Q
theorem call_reads {r : List V → Hp → VK → Prop} {o : List D → R D} (hs : OkCall G E X.K r o) {σ : L2.St} {H : Hp} {Q : VK} (q : tD G E X.K (eCall o fs) σ H Q) : tDA G E X.K fs σ H fun vs H1 => Bd X.K H1 → r vs H1 Q := by
  obtain ⟨ρ, hr, ho⟩ := q
  refine ⟨ρ, hr, (Out.bind (rel := RpAll X.K) ho).mono ?_⟩
  rintro xs H1 e1 - ⟨ds, hds, _, hx, ho⟩ bd
  exact hs H1 xs ds Q bd hx ho
theorem pd_callB {x : Str} {id : String} {r : List V → Hp → VK → Prop} {o : List D → R D} {p : Pos} (hc : CallR X (.builtin id) r) (hs : OkCall G E X.K r o) (hg : Gl X x) (hm : X.mg x = none) (hv : bootBuiltins x = some (.builtin id)) (ha : PDA G E X (e :: es) fs) (hn : x ≠ "__name__" := by decide) (hdb : (x == ("__debug__" : Str)) = false := by decide)
    (he : starEach (e :: es) X.env = (false, eval e X.env) :: starEach es X.env := by rfl) (hpl : (backTo pos (starEach es X.env)).any (·.1) = false := by rfl) : PD G E X (.Call (.Name x p) (e :: es) [] pos) (eCall o fs) :=
  pe_imp (pe_callB hc hg hm hv (pa_bd ha) hn hdb he hpl) fun σ H Q q => call_reads hs q
theorem pd_callTy {x : Str} {T : String} {r : List V → Hp → VK → Prop} {o : List D → R D} {p : Pos} (hc : CallR X (.type T) r) (hs : OkCall G E X.K r o) (hg : Gl X x) (hm : X.mg x = none) (hv : bootBuiltins x = some (.type T)) (ha : PDA G E X (e :: es) fs) (hn : x ≠ "__name__" := by decide) (hdb : (x == ("__debug__" : Str)) = false := by decide)
    (he : starEach (e :: es) X.env = (false, eval e X.env) :: starEach es X.env := by rfl) (hpl : (backTo pos (starEach es X.env)).any (·.1) = false := by rfl) : PD G E X (.Call (.Name x p) (e :: es) [] pos) (eCall o fs) :=
  pe_imp (pe_callTy hc hg hm hv (pa_bd ha) hn hdb he hpl) fun σ H Q q => call_reads hs q
def intsOf : List D → Option (List Int)
  | [] => some []
  | .int i :: r => (intsOf r).map (i :: ·)
  | _ :: _ => none
def boolsOf : List D → Option (List Bool)
  | [] => some []
  | .bool i :: r => (boolsOf r).map (i :: ·)
  | _ :: _ => none
theorem ints_rp {K : PySem.W.Frag} {H : Hp} : ∀ {vs : List V} {ds : List D} {ns : List Int}, RpAll K H vs ds → intsOf ds = some ns → vs = ns.map V.int
  | _, _, ns, .nil, e => by
    cases e
    rfl
  | v :: vs, d :: ds, ns, .cons h1 h2, e => by
    cases d with
    | int i =>
      cases h1
      unfold intsOf at e
      cases q : intsOf ds with
      | none => rw [q] at e; cases e
      | some ms =>
        rw [q] at e
        cases e
        rw [ints_rp h2 q]
        rfl
    | _ => cases e
theorem bools_rp {K : PySem.W.Frag} {H : Hp} : ∀ {vs : List V} {ds : List D} {ns : List Bool}, RpAll K H vs ds → boolsOf ds = some ns → vs = ns.map V.bl
  | _, _, ns, .nil, e => by
    cases e
    rfl
  | v :: vs, d :: ds, ns, .cons h1 h2, e => by
    cases d with
    | bool i =>
      cases h1
      unfold boolsOf at e
      cases q : boolsOf ds with
      | none => rw [q] at e; cases e
      | some ms =>
        rw [q] at e
        cases e
        rw [bools_rp h2 q]
        rfl
    | _ => cases e
def bLen : List D → R D
  | [.list ds] => .ok (.int ds.length)
  | [.tuple ds] => .ok (.int ds.length)
  | [.str z] => if z.length ≤ 100000 then .ok (.int z.length) else .bad
  | _ => .bad
theorem ok_len : OkCall G E X.K (fun xs H Q => (∃ p ys, xs = [.ref p] ∧ (SqL X.K H p ys ∨ SqT X.K H p ys) ∧ Q (.int ys.length) H) ∨ (∃ z, xs = [.str z] ∧ z.length ≤ sizeLine ∧ Q (.int z.length) H)) bLen := by
  intro H xs ds Q bd hx ho
  unfold bLen at ho
  split at ho
  · cases hx with
    | cons h1 h2 =>
      cases h2
      cases h1 with
      | lst a b =>
        refine .inl ⟨_, _, rfl, .inl (.inl a), ?_⟩
        rw [RpAll.len b]
        exact ho _ H (Ex.refl H) (.int _)
  · cases hx with
    | cons h1 h2 =>
      cases h2
      cases h1 with
      | tup a b =>
        refine .inl ⟨_, _, rfl, .inr a, ?_⟩
        rw [RpAll.len b]
        exact ho _ H (Ex.refl H) (.int _)
  · rename_i z
    by_cases hz : z.length ≤ 100000
    · rw [if_pos hz] at ho
      cases hx with
      | cons h1 h2 =>
        cases h2
        cases h1
        exact .inr ⟨_, rfl, small100k hz, ho _ H (Ex.refl H) (.int _)⟩
    · rw [if_neg hz] at ho
      exact ho.elim
  · exact ho.elim
theorem pd_len {p : Pos} (hg : Gl X "len") (hm : X.mg "len" = none) (ha : PDA G E X [e] fs) (he : starEach [e] X.env = [(false, eval e X.env)] := by rfl) : PD G E X (.Call (.Name "len" p) [e] [] pos) (eCall bLen fs) :=
  pd_callB (call_len_seq.or call_len_str) ok_len hg hm boot_len ha (by decide) (by decide) he rfl
def bMin2 : List D → R D
  | [.int i, .int j] => .ok (.int (if j < i then j else i))
  | _ => .bad
def bMax2 : List D → R D
  | [.int i, .int j] => .ok (.int (if j > i then j else i))
  | _ => .bad
theorem ok_min2 : OkCall G E X.K (fun xs H Q => ∃ i j, xs = [.int i, .int j] ∧ Q (.int (if j < i then j else i)) H) bMin2 := by
  intro H xs ds Q bd hx ho
  unfold bMin2 at ho
  split at ho
  · cases hx with
    | cons h1 h2 =>
      cases h2 with
      | cons h2 h3 =>
        cases h3
        cases h1; cases h2
        exact ⟨_, _, rfl, ho _ H (Ex.refl H) (.int _)⟩
  · exact ho.elim
theorem ok_max2 : OkCall G E X.K (fun xs H Q => ∃ i j, xs = [.int i, .int j] ∧ Q (.int (if j > i then j else i)) H) bMax2 := by
  intro H xs ds Q bd hx ho
  unfold bMax2 at ho
  split at ho
  · cases hx with
    | cons h1 h2 =>
      cases h2 with
      | cons h2 h3 =>
        cases h3
        cases h1; cases h2
        exact ⟨_, _, rfl, ho _ H (Ex.refl H) (.int _)⟩
  · exact ho.elim
theorem pd_min2 {p : Pos} (hc : X.calm = true) (hg : Gl X "min") (hm : X.mg "min" = none) (ha : PDA G E X [a, b] fs) (he : starEach [a, b] X.env = (false, eval a X.env) :: starEach [b] X.env := by rfl) (hpl : (backTo pos (starEach [b] X.env)).any (·.1) = false := by rfl) : PD G E X (.Call (.Name "min" p) [a, b] [] pos) (eCall bMin2 fs) :=
  pd_callB (call_min2 hc) ok_min2 hg hm boot_min ha (by decide) (by decide) he hpl
theorem pd_max2 {p : Pos} (hc : X.calm = true) (hg : Gl X "max") (hm : X.mg "max" = none) (ha : PDA G E X [a, b] fs) (he : starEach [a, b] X.env = (false, eval a X.env) :: starEach [b] X.env := by rfl) (hpl : (backTo pos (starEach [b] X.env)).any (·.1) = false := by rfl) : PD G E X (.Call (.Name "max" p) [a, b] [] pos) (eCall bMax2 fs) :=
  pd_callB (call_max2 hc) ok_max2 hg hm boot_max ha (by decide) (by decide) he hpl
def bSum : List D → R D
  | [.list ds] => match intsOf ds with
    | some ns => .ok (.int ns.sum)
    | none => .bad
  | _ => .bad
theorem ok_sum : OkCall G E X.K (rSum X.K) bSum := by
  intro H xs ds Q bd hx ho
  unfold bSum at ho
  split at ho
  · split at ho
    · rename_i ns e
      cases hx with
      | cons h1 h2 =>
        cases h2
        cases h1 with
        | lst a b =>
          rw [ints_rp b e] at a
          exact ⟨_, ns, rfl, .inl a, ho _ H (Ex.refl H) (.int _)⟩
    · exact ho.elim
  · exact ho.elim
theorem pd_sum {p : Pos} (hc : X.calm = true) (hg : Gl X "sum") (hm : X.mg "sum" = none) (ha : PDA G E X [e] fs) (he : starEach [e] X.env = [(false, eval e X.env)] := by rfl) : PD G E X (.Call (.Name "sum" p) [e] [] pos) (eCall bSum fs) :=
  pd_callB (cr_sum hc) ok_sum hg hm boot_sum ha (by decide) (by decide) he rfl
def bAll : List D → R D
  | [.list ds] => match boolsOf ds with
    | some ns => .ok (.bool (ns.all id))
    | none => .bad
  | _ => .bad
def bAny : List D → R D
  | [.list ds] => match boolsOf ds with
    | some ns => .ok (.bool (ns.any id))
    | none => .bad
  | _ => .bad
theorem ok_all : OkCall G E X.K (rAll X.K) bAll := by
  intro H xs ds Q bd hx ho
  unfold bAll at ho
  split at ho
  · split at ho
    · rename_i ns e
      cases hx with
      | cons h1 h2 =>
        cases h2
        cases h1 with
        | lst a b =>
          rw [bools_rp b e] at a
          exact ⟨_, ns, rfl, .inl a, ho _ H (Ex.refl H) (.bl _)⟩
    · exact ho.elim
  · exact ho.elim
theorem ok_any : OkCall G E X.K (rAny X.K) bAny := by
  intro H xs ds Q bd hx ho
  unfold bAny at ho
  split at ho
  · split at ho
    · rename_i ns e
      cases hx with
      | cons h1 h2 =>
        cases h2
        cases h1 with
        | lst a b =>
          rw [bools_rp b e] at a
          exact ⟨_, ns, rfl, .inl a, ho _ H (Ex.refl H) (.bl _)⟩
    · exact ho.elim
  · exact ho.elim
theorem pd_all {p : Pos} (hc : X.calm = true) (hg : Gl X "all") (hm : X.mg "all" = none) (ha : PDA G E X [e] fs) (he : starEach [e] X.env = [(false, eval e X.env)] := by rfl) : PD G E X (.Call (.Name "all" p) [e] [] pos) (eCall bAll fs) :=
  pd_callB (cr_all hc) ok_all hg hm (by decide +kernel) ha (by decide) (by decide) he rfl
theorem pd_any {p : Pos} (hc : X.calm = true) (hg : Gl X "any") (hm : X.mg "any" = none) (ha : PDA G E X [e] fs) (he : starEach [e] X.env = [(false, eval e X.env)] := by rfl) : PD G E X (.Call (.Name "any" p) [e] [] pos) (eCall bAny fs) :=
  pd_callB (cr_any hc) ok_any hg hm (by decide +kernel) ha (by decide) (by decide) he rfl
def bAbs : List D → R D
  | [.int i] => .ok (.int (if i < 0 then -i else i))
  | _ => .bad
theorem ok_abs : OkCall G E X.K (fun xs H Q => ∃ i, xs = [.int i] ∧ Q (.int (if i < 0 then -i else i)) H) bAbs := by
  intro H xs ds Q bd hx ho
  unfold bAbs at ho
  split at ho
  · cases hx with
    | cons h1 h2 =>
      cases h2; cases h1
      exact ⟨_, rfl, ho _ H (Ex.refl H) (.int _)⟩
  · exact ho.elim
theorem pd_abs {p : Pos} (hg : Gl X "abs") (hm : X.mg "abs" = none) (ha : PDA G E X [e] fs) (he : starEach [e] X.env = [(false, eval e X.env)] := by rfl) : PD G E X (.Call (.Name "abs" p) [e] [] pos) (eCall bAbs fs) :=
  pd_callB call_abs ok_abs hg hm (by decide +kernel) ha (by decide) (by decide) he rfl
def bList : List D → R D
  | [.list ds] => .ok (.list ds)
  | [.tuple ds] => .ok (.list ds)
  | _ => .bad
def bTuple : List D → R D
  | [.list ds] => .ok (.tuple ds)
  | [.tuple ds] => .ok (.tuple ds)
  | _ => .bad
theorem ok_list : OkCall G E X.K (fun xs H Q => ∃ p ys, xs = [.ref p] ∧ (SqL X.K H p ys ∨ SqT X.K H p ys) ∧ ∀ l, H l = none → Q (.ref l) (upd H l (.lst ys))) bList := by
  intro H xs ds Q bd hx ho
  unfold bList at ho
  split at ho
  · cases hx with
    | cons h1 h2 =>
      cases h2
      cases h1 with
      | lst a b => exact ⟨_, _, rfl, .inl (.inl a), fun p hp => ho _ _ (Ex.new hp) (.lst (.inl upd_same) ((Ex.new (T := G.T) hp).rps b))⟩
  · cases hx with
    | cons h1 h2 =>
      cases h2
      cases h1 with
      | tup a b => exact ⟨_, _, rfl, .inr a, fun p hp => ho _ _ (Ex.new hp) (.lst (.inl upd_same) ((Ex.new (T := G.T) hp).rps b))⟩
  · exact ho.elim
theorem ok_tuple : OkCall G E X.K (fun xs H Q => ∃ p ys, xs = [.ref p] ∧ ((SqL X.K H p ys ∧ ∀ l, H l = none → Q (.ref l) (upd H l (.tup ys))) ∨ (SqT X.K H p ys ∧ Q (.ref p) H))) bTuple := by
  intro H xs ds Q bd hx ho
  unfold bTuple at ho
  split at ho
  · cases hx with
    | cons h1 h2 =>
      cases h2
      cases h1 with
      | lst a b => exact ⟨_, _, rfl, .inl ⟨.inl a, fun p hp => ho _ _ (Ex.new hp) (.tup (SqT.of upd_same) ((Ex.new (T := G.T) hp).rps b))⟩⟩
  · cases hx with
    | cons h1 h2 =>
      cases h2
      cases h1 with
      | tup a b => exact ⟨_, _, rfl, .inr ⟨a, ho _ H (Ex.refl H) (.tup a b)⟩⟩
  · exact ho.elim
theorem pd_list {p : Pos} (hg : Gl X "list") (hm : X.mg "list" = none) (ha : PDA G E X [e] fs) (he : starEach [e] X.env = [(false, eval e X.env)] := by rfl) : PD G E X (.Call (.Name "list" p) [e] [] pos) (eCall bList fs) :=
  pd_callTy call_list_of ok_list hg hm (by decide +kernel) ha (by decide) (by decide) he rfl
theorem pd_tuple {p : Pos} (hg : Gl X "tuple") (hm : X.mg "tuple" = none) (ha : PDA G E X [e] fs) (he : starEach [e] X.env = [(false, eval e X.env)] := by rfl) : PD G E X (.Call (.Name "tuple" p) [e] [] pos) (eCall bTuple fs) :=
  pd_callTy call_tuple_of ok_tuple hg hm (by decide +kernel) ha (by decide) (by decide) he rfl
/-! ### isinstance(x, T) of built-in types -/
def tyD : D → String
  | .none => "NoneType"
  | .bool _ => "bool"
  | .int _ => "int"
  | .str _ => "str"
  | .list _ => "list"
  | .tuple _ => "tuple"
  | .dict _ => "dict"
/-- a def as a value: no data -/
def isFnE : List (D × D) → Bool
  | (.none, _) :: _ => true
  | _ => false
def isFn : D → Bool
  | .dict es => isFnE es
  | _ => false
def dIsi (T : String) (d : D) : R D := if isFn d = true then .bad else match kitB (tyD d) T with
  | some b => .ok (.bool b)
  | none => .bad
theorem tyx_rp {K : PySem.W.Frag} {H : Hp} {x : V} {d : D} (h : Rp K H x d) (hn : isFn d = false) : TyX K H x (.type (tyD d)) := by
  cases h with
  | non => exact .base .non
  | bl b => exact .base (.bl b)
  | int i => exact .base (.int i)
  | str z => exact .base (.str z)
  | lst a b =>
    rcases a with a | ⟨o, a⟩
    · exact .base (.lst a)
    · exact .base (.frz a)
  | dic a b c =>
    rcases a with a | ⟨o, a⟩
    · exact .base (.dK a)
    · exact .fDict a
  | fn x => cases hn
  | tup a b =>
    rcases a with (a | ⟨o, a⟩) | ⟨o, its, n, a, c, _⟩
    · exact .base (.tup a)
    · exact .fTuple a
    · exact .kTuple a c
theorem pd_isi {x : Str} {T : String} {p p1 : Pos} (hg : Gl X "isinstance") (hm : X.mg "isinstance" = none) (hg1 : Gl X x) (hm1 : X.mg x = none) (hv : bootBuiltins x = some (.type T)) (ha : PD G E X e f) (hn : x ≠ "__name__" := by decide) (hdb : (x == ("__debug__" : Str)) = false := by decide)
    (he : starEach [e, .Name x p1] X.env = (false, eval e X.env) :: starEach [.Name x p1] X.env := by rfl) (he2 : starEach [.Name x p1] X.env = [(false, eval (.Name x p1) X.env)] := by rfl) (hpl : (backTo pos (starEach [.Name x p1] X.env)).any (·.1) = false := by rfl) :
    PD G E X (.Call (.Name "isinstance" p) [e, .Name x p1] [] pos) (eUn (dIsi T) f) := by
  refine pe_imp (pe_callB (call_isi (X := X)) hg hm (by decide +kernel) (pa_cons ha (pa_cons (pe_bltn (v := .ty T) hg1 hm1 hv rfl hn hdb) pa_nil he2) he) (by decide) (by decide) he hpl) ?_
  rintro σ H Q ⟨ρ, hr, ho⟩
  refine ⟨ρ, hr, (Out.bind (rel := Rp X.K) ho).mono ?_⟩
  rintro y H1 e1 - ⟨d1, hd1, _, hx, ho⟩
  unfold dIsi at ho
  cases hn : isFn d1 with
  | true =>
    rw [if_pos hn] at ho
    exact ho.elim
  | false =>
    rw [if_neg (by rw [hn]; exact Bool.false_ne_true)] at ho
    split at ho
    · rename_i b hb
      exact ⟨_, _, _, _, b, rfl, .ty T, tyx_rp hx hn, kit_ty hb, ho _ H1 (Ex.refl H1) (.bl b)⟩
    · exact ho.elim
end
end DL
set_option Elab.async false
set_option linter.all false
set_option maxRecDepth 100000
set_option maxHeartbeats 4000000
/-! DL3: lists that a def owns are hidden while an expression runs that doesn't speak of them. -/
namespace DL
open PySem PySem.Spec PyProof.Rows L2

def hid (H : Hp) (L : List Addr) : Hp := fun a => if a ∈ L then none else H a
def unh (H : Hp) (L : List Addr) (H2 : Hp) : Hp := fun a => if a ∈ L then H a else H2 a
theorem hid_in {H : Hp} {L : List Addr} {a : Addr} (h : a ∈ L) : hid H L a = none := if_pos h
theorem hid_out {H : Hp} {L : List Addr} {a : Addr} (h : a ∉ L) : hid H L a = H a := if_neg h
theorem unh_in {H H2 : Hp} {L : List Addr} {a : Addr} (h : a ∈ L) : unh H L H2 a = H a := if_pos h
theorem unh_out {H H2 : Hp} {L : List Addr} {a : Addr} (h : a ∉ L) : unh H L H2 a = H2 a := if_neg h
/-- each of them is a list of the def's own -/
def Owns (H : Hp) (L : List Addr) : Prop := ∀ a ∈ L, ∃ vs, H a = some (.lst vs)
theorem owns_not {H : Hp} {L : List Addr} (h : Owns H L) {a : Addr} {o : HO} (e : H a = some o) (n : ∀ vs, o ≠ .lst vs) : a ∉ L := fun hm => by
  obtain ⟨vs, q⟩ := h a hm
  rw [e] at q
  exact n vs (Option.some.inj q)
theorem owns_none {H : Hp} {L : List Addr} (h : Owns H L) {a : Addr} (e : H a = none) : a ∉ L := fun hm => by
  obtain ⟨vs, q⟩ := h a hm
  rw [e] at q
  cases q
theorem hid_some {H : Hp} {L : List Addr} {a : Addr} {o : HO} (h : hid H L a = some o) : H a = some o ∧ a ∉ L := by
  by_cases hm : a ∈ L
  · rw [hid_in hm] at h
    cases h
  · rw [hid_out hm] at h
    exact ⟨h, hm⟩
section
variable {X : Cx} {pins : List (Addr × Obj)} {σ σ' : L2.St} {H H2 : Hp} {s s' : Shared} {L : List Addr}
theorem Inv.nofr (I : Inv X pins σ H s) {a : Addr} {o : HO} (e : H a = some o) : a ∉ X.fs := fun hb => by
  have q : a ∈ frs X.stack := by
    rcases I.ok.stk with z | ⟨z, hf⟩
    · rw [z]; exact hb
    · rw [z]
      unfold frs
      rw [List.filterMap_cons, hf]
      exact List.mem_cons_of_mem _ hb
  rw [I.stkFree a q] at e
  cases e
theorem inv_hide (I : Inv X pins σ H s) (hL : Owns H L) : Inv X (pins ++ pinsAt L s.heap) σ (hid H L) s := by
  have keepN : ∀ {b : Addr}, H b = none → hid H L b = none := fun {b} e => by rw [hid_out (owns_none hL e)]; exact e
  refine ⟨I.ok, I.os, I.bare, ⟨I.base.keep, I.base.slot, fun b o e n hx => keepN (I.base.free b o e n hx), I.base.there, fun b xs e => ?_, fun b o u e => ?_, fun b ps e => ?_⟩, I.loc, I.cell, keepN I.free, fun x c e => keepN (I.freeC x c e), fun p hp => ?_, fun a o e => ?_, I.len⟩
  · have q := I.base.tups b xs e
    rw [hid_out (owns_not hL q fun vs z => by cases z)]
    exact q
  · have q := I.base.frzs b o u e
    rw [hid_out (owns_not hL q fun vs z => by cases z)]
    exact q
  · obtain ⟨m, q⟩ := I.base.tbls b ps e
    exact ⟨m, by rw [hid_out (owns_not hL q fun vs z => by cases z)]; exact q⟩
  · rw [← List.append_assoc] at hp
    rcases List.mem_append.mp hp with hp | hp
    · obtain ⟨h1, h2, h3⟩ := I.pin p hp
      exact ⟨h1, keepN h2, h3⟩
    · obtain ⟨hm, e⟩ := of_pinsAt hp
      obtain ⟨vs, q⟩ := hL p.1 hm
      refine ⟨e, hid_in hm, fun z => ?_, Inv.nofr I q, fun v z => ?_⟩
      · rw [z, I.free] at q
        cases q
      · obtain ⟨_, its, n, _, e2⟩ := I.hok p.1 _ q
        have q2 := Option.some.inj (e.symm.trans e2)
        rw [q2] at z
        cases z
  · obtain ⟨e1, hn⟩ := hid_some e
    exact (I.hok a o e1).stay (fun _ _ _ q => q) (fun b q => by rw [hid_out (owns_not hL q fun vs z => by cases z)]; exact q) fun b xs q => by rw [hid_out (owns_not hL q fun vs z => by cases z)]; exact q
theorem hid_pins (I : Inv X pins σ H s) (hL : Owns H L) {p : Addr} (hp : p ∈ L) : ∃ o, (p, o) ∈ pinsAt L s.heap ∧ s.heap.get? p = some o := by
  obtain ⟨vs, q⟩ := hL p hp
  obtain ⟨_, its, n, _, e⟩ := I.hok p _ q
  exact ⟨_, mem_pinsAt hp e, e⟩
theorem inv_none (I : Inv X pins σ H s) (hL : Owns H L) (J : Inv X (pins ++ pinsAt L s.heap) σ' H2 s') : ∀ a ∈ L, H2 a = none := fun a ha => by
  obtain ⟨o, hm, _⟩ := hid_pins I hL ha
  exact (J.pin (a, o) (List.mem_append_right _ (List.mem_append_right _ hm))).2.1
theorem inv_unhide (I : Inv X pins σ H s) (hL : Owns H L) (J : Inv X (pins ++ pinsAt L s.heap) σ' H2 s') : Inv X pins σ' (unh H L H2) s' := by
  have hn := inv_none I hL J
  have out : ∀ {b : Addr} {o : HO}, H2 b = some o → b ∉ L := fun {b o} e hm => by
    rw [hn b hm] at e
    cases e
  have keepN : ∀ {b : Addr}, H b = none → H2 b = none → unh H L H2 b = none := fun {b} e e2 => by
    rw [unh_out (owns_none hL e)]
    exact e2
  have keepS : ∀ {b : Addr} {o : HO}, H2 b = some o → unh H L H2 b = some o := fun {b o} e => by rw [unh_out (out e)]; exact e
  refine ⟨J.ok, J.os, J.bare, ⟨J.base.keep, J.base.slot, fun b o e n hx => keepN (I.base.free b o e n hx) (J.base.free b o e n hx), J.base.there, fun b xs e => keepS (J.base.tups b xs e), fun b o u e => keepS (J.base.frzs b o u e), fun b ps e => ?_⟩, J.loc, J.cell, keepN I.free J.free, fun x c e => keepN (I.freeC x c e) (J.freeC x c e), fun p hp => ?_, fun a o e => ?_, J.len⟩
  · obtain ⟨m, q⟩ := J.base.tbls b ps e
    exact ⟨m, keepS q⟩
  · have hp' : p ∈ X.pn ++ (pins ++ pinsAt L s.heap) := by
      rw [← List.append_assoc]
      exact List.mem_append_left _ hp
    obtain ⟨h1, h2, h3⟩ := J.pin p hp'
    exact ⟨h1, keepN (I.pin p hp).2.1 h2, h3⟩
  · by_cases hm : a ∈ L
    · rw [unh_in hm] at e
      obtain ⟨vs, q⟩ := hL a hm
      rw [q] at e
      cases e
      obtain ⟨z, its, n, r, e2⟩ := I.hok a _ q
      obtain ⟨o, hpo, eo⟩ := hid_pins I hL hm
      rw [e2] at eo
      cases eo
      exact ⟨z, its, n, r, (J.pin (a, _) (List.mem_append_right _ (List.mem_append_right _ hpo))).1⟩
    · rw [unh_out hm] at e
      exact (J.hok a o e).stay (fun _ _ _ q => q) (fun b q => keepS q) fun b xs q => keepS q

/-! ### the same for what runs -/
def tHide (t : TE) : TE := fun σ H Q => ∃ L, Owns H L ∧ t σ (hid H L) fun v H2 => (∀ a ∈ L, H2 a = none) → Q v (unh H L H2)
def tHideA (t : TA) : TA := fun σ H Q => ∃ L, Owns H L ∧ t σ (hid H L) fun v H2 => (∀ a ∈ L, H2 a = none) → Q v (unh H L H2)
def tHideT (t : TT) : TT := fun σ H Q => ∃ L, Owns H L ∧ t σ (hid H L) fun v H2 => (∀ a ∈ L, H2 a = none) → Q v (unh H L H2)
def tHideI (t : TI) : TI := fun σ H R => ∃ L, Owns H L ∧ t σ (hid H L) fun J H2 => (∀ a ∈ L, H2 a = none) → R J (unh H L H2)
variable {e : Expr} {es : List Expr}
theorem pe_hide {t : TE} (h : PE X e t) : PE X e (tHide t) := ⟨fun pins s σ H Q I q => by
  obtain ⟨L, hL, q⟩ := q
  refine thn (h.run _ s σ _ _ (inv_hide I hL) q) fun u s' hs => ?_
  obtain ⟨v, H2, J, r, k⟩ := hs
  exact ⟨v, _, inv_unhide I hL J, r, k (inv_none I hL J)⟩⟩
theorem pa_hide {t : TA} (h : PA X es t) : PA X es (tHideA t) := ⟨fun pos pins s σ H Q I q => by
  obtain ⟨L, hL, q⟩ := q
  refine thn (h.run pos _ s σ _ _ (inv_hide I hL) q) fun u s' hs => ?_
  obtain ⟨v, H2, J, r, k⟩ := hs
  exact ⟨v, _, inv_unhide I hL J, r, k (inv_none I hL J)⟩⟩
theorem pt_hide {t : TT} (h : PT X e t) : PT X e (tHideT t) := ⟨fun pins s σ H Q I q => by
  obtain ⟨L, hL, q⟩ := q
  refine thn (h.run _ s σ _ _ (inv_hide I hL) q) fun u s' hs => ?_
  obtain ⟨H2, J, k⟩ := hs
  exact ⟨_, inv_unhide I hL J, k (inv_none I hL J)⟩⟩
theorem pi_hide {tg : Expr} {t : TI} (h : PI X tg e t) : PI X tg e (tHideI t) := ⟨fun pins s σ H R I q => by
  obtain ⟨L, hL, q⟩ := q
  refine thn (h.run _ s σ _ _ (inv_hide I hL) q) fun u s1 hs => thn hs fun itv s2 hs => ?_
  obtain ⟨it, fp, tn, J, H2, e, I2, T, t0, fo, k⟩ := hs
  refine ⟨it, fp, tn, J, _, e, inv_unhide I hL I2, T, t0, fun b hb => ?_, k (inv_none I hL I2)⟩
  obtain ⟨f0, f1, f2, f3, f4, f5⟩ := fo b hb
  refine ⟨?_, f1, f2, f3, f4, fun p hp => f5 p (by rw [← List.append_assoc]; exact List.mem_append_left _ hp)⟩
  have nb : b ∉ L := fun hm => by
    obtain ⟨o, hpo, _⟩ := hid_pins I hL hm
    exact f5 (b, o) (List.mem_append_right _ (List.mem_append_right _ hpo)) rfl
  rw [unh_out nb]
  exact f0⟩
end

/-! ### heaps -/
section
variable {T : List (Addr × Str)} {K : PySem.W.Frag} {H H1 H2 : Hp} {L : List Addr}
def Sub (H H' : Hp) : Prop := ∀ a o, H a = some o → H' a = some o
theorem Sub.ex (h : Sub H H1) : Ex T H H1 := Ex.same h
theorem sub_unh (hn : ∀ a ∈ L, H2 a = none) : Sub H2 (unh H L H2) := fun a o e => by
  by_cases hm : a ∈ L
  · rw [hn a hm] at e
    cases e
  · rw [unh_out hm]
    exact e
theorem hid_sub : Sub (hid H L) H := fun a o e => (hid_some e).1
theorem sub_hid (h : Sub H1 H) (hn : ∀ a ∈ L, H1 a = none) : Sub H1 (hid H L) := fun a o e => by
  by_cases hm : a ∈ L
  · rw [hn a hm] at e
    cases e
  · rw [hid_out hm]
    exact h a o e
theorem tabs_hid (hL : Owns H L) (t : LamX.Tabs T H) : LamX.Tabs T (hid H L) := fun p hp => by
  obtain ⟨ps, h1, h2, h3⟩ := t p hp
  refine ⟨ps, by rw [hid_out (owns_not hL h1 fun vs z => by cases z)]; exact h1, h2, fun pos cv hc => ?_⟩
  obtain ⟨c, e1, e2⟩ := h3 pos cv hc
  exact ⟨c, e1, by rw [hid_out (owns_not hL e2 fun vs z => by unfold LamX.CodeO at z; cases z)]; exact e2⟩
/-- lists taken out at both ends -/
theorem ex_hid (e : Ex T H H1) (hL : Owns H1 L) (hn : ∀ a ∈ L, H a = none) : Ex T H (hid H1 L) := ⟨fun a o h nt => by
  have na : a ∉ L := fun hm => by
    rw [hn a hm] at h
    cases h
  rw [hid_out na]
  exact e.keep a o h nt, fun t => tabs_hid hL (e.tabs t), fun b ps h => by
  obtain ⟨ps', q⟩ := e.tbl b ps h
  exact ⟨ps', by rw [hid_out (owns_not hL q fun vs z => by cases z)]; exact q⟩⟩
end
end DL
set_option Elab.async false
set_option linter.all false
set_option maxRecDepth 100000
set_option maxHeartbeats 4000000
/-! DL4: what is walked, targets, comprehensions, calls. -/
namespace DL
open PySem PySem.Spec PyProof.Rows L2 RZ

/-! ### zip of a tuple and a list, over the kit's Draws -/
def ItzM (K : PySem.W.Frag) (a b : Addr) : It :=
  ⟨fun i H => ∃ (xs ys : List V) (x y : V), SqT K H a xs ∧ SqL K H b ys ∧ xs[i]? = some x ∧ ys[i]? = some y,
    fun i H v H' => ∃ T x y, v = .ref T ∧ H T = none ∧ H' = upd H T (.tup [x, y]) ∧ (∀ xs, SqT K H a xs → xs[i]? = some x) ∧ ∀ ys, SqL K H b ys → ys[i]? = some y,
    fun i H => ∃ xs ys : List V, SqT K H a xs ∧ SqL K H b ys ∧ i ≤ xs.length ∧ i ≤ ys.length ∧ (i = xs.length ∨ i = ys.length)⟩
theorem sepM {z TI TO i1 i2 a b : Addr} (D : ZipApart z TI TO i1 i2 a b) : ZipSep2 z TI TO i1 i2 [i1, a] [i2, b] where
  TIz := D.TIz
  TOz := D.TOz
  TITO := D.TITO
  TIi1 := D.TIi1
  mem1 := by simp
  zf1 := by simpa using ⟨D.i1z.symm, D.l1z.symm⟩
  Tf1 := by simpa using ⟨D.TOi1, D.l1TO.symm⟩
  TIi2 := D.TIi2
  mem2 := by simp
  zf2 := by simpa using ⟨D.i2z.symm, D.l2z.symm⟩
  Tf2 := by simpa using ⟨D.TOi2, D.l2TO.symm⟩
  sep1_2 := by simpa using ⟨D.i12, D.l2i1.symm⟩
  sep2_1 := by simpa using ⟨D.i12.symm, D.l1i2.symm⟩
theorem turn_zipM {P : Program} {w : World} {K : PySem.W.Frag} {elts : List Expr} {kk : Nat} {tpos : Pos} {a b z TI TO i1 i2 : Addr} (D : ZipApart z TI TO i1 i2 a b) :
    Turn P w K (.Tuple elts kk tpos) (ItzM K a b) [z, TI, TO, i1, i2] z (fun i h => IsZip h z TI TO .none ∧ IsPair h TI (.ref i1) (.ref i2) ∧ (∃ x y, IsPair h TO x y) ∧ h.IsTupleIter i1 a i ∧ h.IsListIter i2 b i) where
  mem := by simp
  obj := fun i h st c hc => by
    obtain ⟨hz, hTI, ⟨x, y, hTO⟩, ⟨o1, e1, _, d1⟩, ⟨o2, e2, _, d2⟩⟩ := st
    simp only [List.mem_cons, List.not_mem_nil, or_false] at hc
    rcases hc with rfl | rfl | rfl | rfl | rfl
    · exact ⟨_, hz, fun v q => nomatch q⟩
    · exact ⟨_, hTI, fun v q => nomatch q⟩
    · exact ⟨_, hTO, fun v q => nomatch q⟩
    · exact ⟨o1, e1, fun v q => by rw [d1] at q; cases q⟩
    · exact ⟨o2, e2, fun v q => by rw [d2] at q; cases q⟩
  keep := fun i h h' st k => by
    obtain ⟨hz, hTI, ⟨x, y, hTO⟩, h1, h2⟩ := st
    exact ⟨k z (by simp) _ hz, k TI (by simp) _ hTI, ⟨x, y, k TO (by simp) _ hTO⟩, h1.at fun o q => k i1 (by simp) o q, h2.at fun o q => k i2 (by simp) o q⟩
  item := by
    intro X hP hw hK hc i pins s σ H E I hf st hg
    subst hP hw hK
    obtain ⟨hz, hTI, ⟨x0, y0, hTO⟩, h1, h2⟩ := st
    obtain ⟨xs, ys, x, y, hqx, hqy, hx, hy⟩ := hg
    obtain ⟨its, rv, p, _⟩ := I.tuple hqx
    obtain ⟨its2, rv2, p2, _⟩ := I.list hqy
    obtain ⟨u, hu, ru⟩ := rv.get hx
    obtain ⟨u2, hu2, ru2⟩ := rv2.get hy
    have hzl : z < s.heap.objs.size := Heap.lt_size hz
    have hh : X.A.in1.handled = none := by simp [I.ok.hd hc]
    have n1 : i < its.toArray.size := by
      rw [List.size_toArray]
      exact (List.getElem?_eq_some_iff.mp hu).1
    have n2 : i < its2.toArray.size := by
      rw [List.size_toArray]
      exact (List.getElem?_eq_some_iff.mp hu2).1
    refine wpAny_pyNext_zipD2_item (sepM D) (Draws.tuple hh i1 a D.l1i1 its.toArray) (Draws.list hh i2 b D.l2i2 its2.toArray) hz hTI hTO ⟨h1, p⟩ ⟨h2, p2.isList⟩ n1 n2 fun x1 x2 h' tk y1 y2 z' TO' s1 s2 hT hsz hk => ?_
    obtain ⟨h1', _⟩ := s1
    obtain ⟨h2', _⟩ := s2
    have q1 : its[i]? = some x1 := by simpa using y1
    have q2 : its2[i]? = some x2 := by simpa using y2
    rw [hu] at q1
    rw [hu2] at q2
    cases q1
    cases q2
    refine ⟨_, rfl, wpAny_letOwnedTupleGo_zip (s := { s with heap := h', toks := tk }) z' fun h'' z'' sb => ?_⟩
    have hT2 : h''.get? s.heap.objs.size = some { cls := .type "tuple", data := .seq #[u, u2] } := (sb.2 _ (Nat.ne_of_gt hzl)).trans hT
    have new : ObjOk X.prog X.w (upd H s.heap.objs.size (.tup [x, y])) h'' s.heap.objs.size (.tup [x, y]) := ⟨by show 2 ≤ sizeLine; decide, [u, u2], .cons ru (.cons ru2 .nil), ⟨_, hT2, rfl, _, rfl⟩⟩
    have kp : ∀ c o, c ∉ [z, TI, TO, i1, i2] → s.heap.get? c = some o → h''.get? c = some o := fun c o hb q => (sb.2 c (fun q' => hb (by simp [q']))).trans (hk c o (fun q' => hb (by simp [q'])) (fun q' => hb (by simp [q'])) (fun q' => hb (by simp [q'])) (fun q' => hb (by simp [q'])) q)
    have I1 : Inv X pins σ (upd H s.heap.objs.size (.tup [x, y])) { s with heap := h'', toks := tk } := I.turnedNew (t' := tk) (ch := [z, TI, TO, i1, i2]) kp hf (Nat.le_refl _) new
    refine ⟨.ref s.heap.objs.size, _, I1, rfl, ⟨_, x, y, rfl, I.hok.fresh (Nat.le_refl _), rfl, fun l hl => by rw [I.tuple_inj hl hqx]; exact hx, fun l hl => by rw [I.list_inj hl hqy]; exact hy⟩, ⟨z'', (sb.2 _ D.TIz).trans (hk _ _ D.TIz D.TITO D.TIi1 D.TIi2 hTI), ⟨u, u2, (sb.2 _ D.TOz).trans TO'⟩, h1'.at fun o q => (sb.2 _ D.i1z).trans q, h2'.at fun o q => (sb.2 _ D.i2z).trans q⟩, fun c hcm => ?_⟩
    have hlt : c < s.heap.objs.size := by
      have hcm := hcm
      simp only [List.mem_cons, List.not_mem_nil, or_false] at hcm
      rcases hcm with q | q | q | q | q
      · rw [q]; exact hzl
      · rw [q]; exact Heap.lt_size hTI
      · rw [q]; exact Heap.lt_size hTO
      · rw [q]; obtain ⟨_, e1, _⟩ := h1; exact Heap.lt_size e1
      · rw [q]; obtain ⟨_, e2, _⟩ := h2; exact Heap.lt_size e2
    rw [upd_ne (Nat.ne_of_lt hlt)]
    exact (hf c hcm).1
  done := by
    intro X hP hw hK hc i pins s σ H E I hf st hg
    subst hP hw hK
    obtain ⟨hz, hTI, ⟨x0, y0, hTO⟩, h1, h2⟩ := st
    obtain ⟨xs, ys, hqx, hqy, m1, m2, hend⟩ := hg
    obtain ⟨its, rv, p, _⟩ := I.tuple hqx
    obtain ⟨its2, rv2, p2, _⟩ := I.list hqy
    have l1 : its.toArray.size = xs.length := by rw [List.size_toArray, ← rv.length]
    have l2 : its2.toArray.size = ys.length := by rw [List.size_toArray, ← rv2.length]
    have hh : X.A.in1.handled = none := by simp [I.ok.hd hc]
    exact wpAny_pyNext_zipD2_end (sepM D) (Draws.tuple hh i1 a D.l1i1 its.toArray) (Draws.list hh i2 b D.l2i2 its2.toArray) hz hTI hTO ⟨h1, p⟩ ⟨h2, p2.isList⟩ (by rw [l1]; exact m1) (by rw [l2]; exact m2) (by rw [l1, l2]; exact hend) fun h' tk hk => ⟨rfl, I.turnedL (t' := tk) (ch := [z, TI, TO, i1, i2]) (fun c o hb q =>
      hk c o (fun q' => hb (by simp [q'])) (fun q' => hb (by simp [q'])) (fun q' => hb (by simp [q'])) (fun q' => hb (by simp [q'])) q) hf⟩
  self := fun A i s Q E st h => wpAny_pyIter_zip st.1 h
theorem pi_zipM {X : Cx} {e e2 : Expr} {ta : TA} {p pos tpos : Pos} {elts : List Expr} {kk : Nat} (hg : Gl X "zip") (hm : X.mg "zip" = none) (ha : PA X [e, e2] ta)
    (hs : starEach [e, e2] X.env = (false, eval e X.env) :: starEach [e2] X.env := by rfl) (hpl : (backTo pos (starEach [e2] X.env)).any (·.1) = false := by rfl) :
    PI X (.Tuple elts kk tpos) (.Call (.Name "zip" p) [e, e2] [] pos) (fun σ H R => ta σ H fun vs H1 => ∃ a b xs ys, vs = [.ref a, .ref b] ∧ SqT X.K H1 a xs ∧ SqL X.K H1 b ys ∧ R (ItzM X.K a b) H1) := by
  refine ⟨fun pins s σ H R I h => ?_⟩
  refine Call_ (ld_blt I hg hm PyProof.Rows.boot_zip (PyProof.Rows.callWith_type1 (thn (ha.run pos pins s σ H _ I h) fun us s1 ⟨vs, H1, I1, r1, q1⟩ => ?_) hs hpl))
  obtain ⟨a, b, xs, ys, ex, hqx, hqy, q⟩ := q1
  subst ex
  cases r1 with
  | cons r rr =>
    cases rr with
    | cons r' rr =>
      cases rr
      cases r
      cases r'
      have fresh5 : ∀ c, c ∈ [s1.heap.objs.size + 4, s1.heap.objs.size + 2, s1.heap.objs.size + 3, s1.heap.objs.size, s1.heap.objs.size + 1] → FpOk X pins H1 c := fun c hcm => by
        have hle : s1.heap.objs.size ≤ c := by
          simp only [List.mem_cons, List.not_mem_nil, or_false] at hcm
          rcases hcm with z | z | z | z | z <;> rw [z] <;> first | exact Nat.le_add_right _ _ | exact Nat.le_refl _
        exact I1.fpOk hle (I1.hok.fresh hle)
      obtain ⟨its, rv, p1, _⟩ := I1.tuple hqx
      obtain ⟨its2, rv2, p2, _⟩ := I1.list hqy
      obtain ⟨o1, ho1, _⟩ := id p1
      refine zip_begins2 (begins_tuple a its.toArray) (begins_list b its2.toArray) p1 p2.isList fun h' hz hTI hTO h1 h2 hsz hk => wpAny_pyIter_zip hz ?_
      have I2 : Inv X pins σ H1 { s1 with heap := h' } := I1.kept (t' := s1.toks) hk
      exact ⟨s1.heap.objs.size + 4, [s1.heap.objs.size + 4, s1.heap.objs.size + 2, s1.heap.objs.size + 3, s1.heap.objs.size, s1.heap.objs.size + 1], _, _, H1, rfl, I2, turn_zipM (PySem.W.ktu_apart s1.heap.objs.size a b (Heap.lt_size ho1) p2.lt), ⟨hz, hTI, ⟨_, _, hTO⟩, ⟨_, h1, rfl, rfl⟩, ⟨_, h2, rfl, rfl⟩⟩, fresh5, q⟩
section
variable {T : List (Addr × Str)} {K : PySem.W.Frag} {H H1 H2 H' : Hp} {L : List Addr}
theorem hid_upd {p : Addr} {o : HO} (h : p ∉ L) : hid (upd H p o) L = upd (hid H L) p o := by
  funext a
  by_cases ha : a ∈ L
  · rw [hid_in ha, upd_ne (fun e => h (by rw [← e]; exact ha)), hid_in ha]
  · rw [hid_out ha]
    by_cases e : a = p
    · subst e
      rw [upd_same, upd_same]
    · rw [upd_ne e, upd_ne e, hid_out ha]
theorem hid_unh (hn : ∀ a ∈ L, H2 a = none) : hid (unh H L H2) L = H2 := by
  funext a
  by_cases ha : a ∈ L
  · rw [hid_in ha, hn a ha]
  · rw [hid_out ha, unh_out ha]
theorem owns_ex (h : Owns H L) (e : Ex T H H') : Owns H' L := fun a ha => by
  obtain ⟨vs, q⟩ := h a ha
  exact ⟨vs, e.lst q⟩
theorem owns_upd (h : Owns H L) {p : Addr} {o : HO} (hp : H p = none) : Owns (upd H p o) L := fun a ha => by
  obtain ⟨vs, q⟩ := h a ha
  exact ⟨vs, by rw [upd_ne (ne_of_none q hp)]; exact q⟩
theorem ex_hid2 (e : Ex T H H1) (hL : Owns H1 L) : Ex T (hid H L) (hid H1 L) := ⟨fun a o h nt => by
  obtain ⟨h1, h2⟩ := hid_some h
  rw [hid_out h2]
  exact e.keep a o h1 nt, fun t => tabs_hid hL (e.tabs (t.ext fun b o q => (hid_some q).1)), fun b ps h => by
  obtain ⟨ps', q⟩ := e.tbl b ps (hid_some h).1
  exact ⟨ps', by rw [hid_out (owns_not hL q fun vs z => by cases z)]; exact q⟩⟩

/-- J walks the items; what it gives stands also where L is hidden -/
structure WalkD (T : List (Addr × Str)) (K : PySem.W.Frag) (J : It) (Hb : Hp) (items : List D) : Prop where
  go : ∀ i H, Ex T Hb H → i < items.length → J.go i H
  stop : ∀ H, Ex T Hb H → J.stop items.length H
  yld : ∀ i H x H' L, Ex T Hb H → Owns H L → (∀ a ∈ L, Hb a = none) → i < items.length → J.yld i H x H' → Ex T (hid H L) (hid H' L) ∧ (∀ a ∈ L, H' a = H a) ∧ ∃ d, items[i]? = some d ∧ Rp K (hid H' L) x d
  small : items.length ≤ sizeLine
theorem walk_lst {a : Addr} {xs : List V} {ds : List D} (h : Rd H a (.lst xs)) (r : RpAll K H xs ds) (hz : xs.length ≤ sizeLine) : WalkD T K (Itl K a) H ds := by
  have hn := RpAll.len r
  refine ⟨fun i H1 e hi => ?_, fun H1 e => ?_, fun i H1 x H2 L e ho hl hi y => ?_, by rw [← hn]; exact hz⟩
  · exact ⟨xs, xs[i]'(by omega), .inl (rd_ext e.keep h), by simp [show i < xs.length by omega]⟩
  · exact ⟨xs, .inl (rd_ext e.keep h), by omega⟩
  · obtain ⟨rfl, q⟩ := y
    refine ⟨Ex.refl _, fun _ _ => rfl, ?_⟩
    obtain ⟨d, h1, h2⟩ := RpAll.getV r (q xs (.inl (rd_ext e.keep h)))
    exact ⟨d, h1, (ex_hid e ho hl).rp h2⟩
theorem walk_tp {a : Addr} {xs : List V} {ds : List D} (h : SqT K H a xs) (r : RpAll K H xs ds) (hz : xs.length ≤ sizeLine) : WalkD T K (Itt K a) H ds := by
  have hn := RpAll.len r
  refine ⟨fun i H1 e hi => ?_, fun H1 e => ?_, fun i H1 x H2 L e ho hl hi y => ?_, by rw [← hn]; exact hz⟩
  · exact ⟨xs, xs[i]'(by omega), sqT_ext e.keep h, by simp [show i < xs.length by omega]⟩
  · exact ⟨xs, sqT_ext e.keep h, by omega⟩
  · obtain ⟨rfl, q⟩ := y
    refine ⟨Ex.refl _, fun _ _ => rfl, ?_⟩
    obtain ⟨d, h1, h2⟩ := RpAll.getV r (q xs (sqT_ext e.keep h))
    exact ⟨d, h1, (ex_hid e ho hl).rp h2⟩
def rgD (lo : Int) (n : Nat) : List D := (List.range n).map fun (i : Nat) => PyData.int (lo + i)
theorem rgD_len {lo : Int} {n : Nat} : (rgD lo n).length = n := by
  unfold rgD
  rw [List.length_map, List.length_range]
theorem walk_rg {lo : Int} {n : Nat} (hz : n ≤ 1000000) : WalkD T K (Itr lo n) H (rgD lo n) := by
  refine ⟨fun i H1 e hi => ?_, fun H1 e => ?_, fun i H1 x H2 L e ho hl hi y => ?_, by rw [rgD_len]; exact Nat.le_trans hz (by decide)⟩
  · rw [rgD_len] at hi
    exact hi
  · show n ≤ (rgD lo n).length
    rw [rgD_len]
    exact Nat.le_refl _
  · obtain ⟨rfl, rfl⟩ := y
    rw [rgD_len] at hi
    exact ⟨Ex.refl _, fun _ _ => rfl, .int (lo + i), by unfold rgD; simp [hi], .int _⟩
def chD (z : Str) : List D := z.cps.toList.map fun c => PyData.str ⟨#[c]⟩
theorem walk_ch {z : Str} (hz : z.length ≤ 100000) : WalkD T K (Its z) H (chD z) := by
  have hn : (chD z).length = z.cps.size := by
    unfold chD
    simp
  refine ⟨fun i H1 e hi => ?_, fun H1 e => ?_, fun i H1 x H2 L e ho hl hi y => ?_, by rw [hn]; exact small100k hz⟩
  · rw [hn] at hi
    exact hi
  · show z.cps.size ≤ (chD z).length
    rw [hn]
    exact Nat.le_refl _
  · obtain ⟨rfl, c, hc, rfl⟩ := y
    refine ⟨Ex.refl _, fun _ _ => rfl, .str ⟨#[c]⟩, ?_, .str _⟩
    unfold chD
    rw [List.getElem?_map, Array.getElem?_toList, hc]
    rfl
/-- a new pair at each turn -/
theorem pair_yld {H H1 : Hp} {v : V} {x y : V} {P : Addr} {d e : D} {L : List Addr} (hp : H1 P = none) (ho : Owns H1 L) (hx : Rp K (hid H1 L) x d) (hy : Rp K (hid H1 L) y e) :
    Ex T (hid H1 L) (hid (upd H1 P (.tup [x, y])) L) ∧ (∀ a ∈ L, upd H1 P (.tup [x, y]) a = H1 a) ∧ Rp K (hid (upd H1 P (.tup [x, y])) L) (.ref P) (.tuple [d, e]) := by
  have nP : P ∉ L := owns_none ho hp
  have hn : hid H1 L P = none := by
    rw [hid_out nP]
    exact hp
  rw [hid_upd nP]
  exact ⟨Ex.new hn, fun a ha => upd_ne (fun z => nP (z ▸ ha)), .tup (SqT.of upd_same) (.cons ((Ex.new (T := T) hn).rp hx) (.cons ((Ex.new (T := T) hn).rp hy) .nil))⟩
def enD (ds : List D) : List D := ds.mapIdx fun i d => PyData.tuple [.int (i : Nat), d]
theorem enD_len {ds : List D} : (enD ds).length = ds.length := by
  unfold enD
  simp
theorem walk_en {a : Addr} {xs : List V} {ds : List D} (h : Rd H a (.lst xs)) (r : RpAll K H xs ds) (hz : xs.length ≤ sizeLine) : WalkD T K (Ite K a) H (enD ds) := by
  have hn := RpAll.len r
  refine ⟨fun i H1 e hi => ?_, fun H1 e => ?_, fun i H1 v H2 L e ho hl hi y => ?_, by rw [enD_len, ← hn]; exact hz⟩
  · rw [enD_len] at hi
    exact ⟨xs, xs[i]'(by omega), .inl (rd_ext e.keep h), by simp [show i < xs.length by omega]⟩
  · exact ⟨xs, .inl (rd_ext e.keep h), by rw [enD_len]; omega⟩
  · obtain ⟨P, x, rfl, hp, rfl, q⟩ := y
    obtain ⟨d, h1, h2⟩ := RpAll.getV r (q xs (.inl (rd_ext e.keep h)))
    obtain ⟨z1, z2, z3⟩ := pair_yld (T := T) (H := H1) (v := .non) (x := .int (i : Nat)) (y := x) (d := .int (i : Nat)) (e := d) hp ho (.int _) ((ex_hid e ho hl).rp h2)
    refine ⟨z1, z2, _, ?_, z3⟩
    unfold enD
    rw [List.getElem?_mapIdx, h1]
    rfl
def zpD (ds es : List D) : List D := (ds.zip es).map fun p => PyData.tuple [p.1, p.2]
theorem zpD_len {ds es : List D} : (zpD ds es).length = min ds.length es.length := by
  unfold zpD
  simp
theorem zpD_at {ds es : List D} {i : Nat} {d e : D} (h1 : ds[i]? = some d) (h2 : es[i]? = some e) : (zpD ds es)[i]? = some (.tuple [d, e]) := by
  unfold zpD
  rw [List.getElem?_map]
  have q : (ds.zip es)[i]? = some (d, e) := by
    rw [List.getElem?_zip_eq_some]
    exact ⟨h1, h2⟩
  rw [q]
  rfl
theorem walk_zpL {a b : Addr} {xs ys : List V} {ds es : List D} (h : Rd H a (.lst xs)) (h' : Rd H b (.lst ys)) (r : RpAll K H xs ds) (r' : RpAll K H ys es) (hz : xs.length ≤ sizeLine) : WalkD T K (Itz K a b) H (zpD ds es) := by
  have hn := RpAll.len r
  have hn' := RpAll.len r'
  refine ⟨fun i H1 e hi => ?_, fun H1 e => ?_, fun i H1 v H2 L e ho hl hi y => ?_, by rw [zpD_len]; omega⟩
  · rw [zpD_len] at hi
    exact ⟨xs, ys, xs[i]'(by omega), ys[i]'(by omega), .inl (rd_ext e.keep h), .inl (rd_ext e.keep h'), by simp [show i < xs.length by omega], by simp [show i < ys.length by omega]⟩
  · exact ⟨xs, ys, .inl (rd_ext e.keep h), .inl (rd_ext e.keep h'), by rw [zpD_len]; omega⟩
  · obtain ⟨P, x, y, rfl, hp, rfl, q, q'⟩ := y
    obtain ⟨d, h1, h2⟩ := RpAll.getV r (q xs (.inl (rd_ext e.keep h)))
    obtain ⟨d', h1', h2'⟩ := RpAll.getV r' (q' ys (.inl (rd_ext e.keep h')))
    obtain ⟨z1, z2, z3⟩ := pair_yld (T := T) (H := H1) (v := .non) hp ho ((ex_hid e ho hl).rp h2) ((ex_hid e ho hl).rp h2')
    exact ⟨z1, z2, _, zpD_at h1 h1', z3⟩
theorem walk_zpT {a b : Addr} {xs ys : List V} {ds es : List D} (h : SqT K H a xs) (h' : SqT K H b ys) (r : RpAll K H xs ds) (r' : RpAll K H ys es) (hz : xs.length ≤ sizeLine) : WalkD T K (ItzT K a b) H (zpD ds es) := by
  have hn := RpAll.len r
  have hn' := RpAll.len r'
  refine ⟨fun i H1 e hi => ?_, fun H1 e => ?_, fun i H1 v H2 L e ho hl hi y => ?_, by rw [zpD_len]; omega⟩
  · rw [zpD_len] at hi
    exact ⟨xs, ys, xs[i]'(by omega), ys[i]'(by omega), sqT_ext e.keep h, sqT_ext e.keep h', by simp [show i < xs.length by omega], by simp [show i < ys.length by omega]⟩
  · exact ⟨xs, ys, sqT_ext e.keep h, sqT_ext e.keep h', by rw [zpD_len]; omega⟩
  · obtain ⟨P, x, y, rfl, hp, rfl, q, q'⟩ := y
    obtain ⟨d, h1, h2⟩ := RpAll.getV r (q xs (sqT_ext e.keep h))
    obtain ⟨d', h1', h2'⟩ := RpAll.getV r' (q' ys (sqT_ext e.keep h'))
    obtain ⟨z1, z2, z3⟩ := pair_yld (T := T) (H := H1) (v := .non) hp ho ((ex_hid e ho hl).rp h2) ((ex_hid e ho hl).rp h2')
    exact ⟨z1, z2, _, zpD_at h1 h1', z3⟩
theorem walk_zpM {a b : Addr} {xs ys : List V} {ds es : List D} (h : SqT K H a xs) (h' : Rd H b (.lst ys)) (r : RpAll K H xs ds) (r' : RpAll K H ys es) (hz : xs.length ≤ sizeLine) : WalkD T K (ItzM K a b) H (zpD ds es) := by
  have hn := RpAll.len r
  have hn' := RpAll.len r'
  refine ⟨fun i H1 e hi => ?_, fun H1 e => ?_, fun i H1 v H2 L e ho hl hi y => ?_, by rw [zpD_len]; omega⟩
  · rw [zpD_len] at hi
    exact ⟨xs, ys, xs[i]'(by omega), ys[i]'(by omega), sqT_ext e.keep h, .inl (rd_ext e.keep h'), by simp [show i < xs.length by omega], by simp [show i < ys.length by omega]⟩
  · refine ⟨xs, ys, sqT_ext e.keep h, .inl (rd_ext e.keep h'), ?_, ?_, ?_⟩ <;> rw [zpD_len] <;> omega
  · obtain ⟨P, x, y, rfl, hp, rfl, q, q'⟩ := y
    obtain ⟨d, h1, h2⟩ := RpAll.getV r (q xs (sqT_ext e.keep h))
    obtain ⟨d', h1', h2'⟩ := RpAll.getV r' (q' ys (.inl (rd_ext e.keep h')))
    obtain ⟨z1, z2, z3⟩ := pair_yld (T := T) (H := H1) (v := .non) hp ho ((ex_hid e ho hl).rp h2) ((ex_hid e ho hl).rp h2')
    exact ⟨z1, z2, _, zpD_at h1 h1', z3⟩
end

/-! ### what is walked, as a rule -/
def rW (T : List (Addr × Str)) (K : PySem.W.Frag) : Hp → It → List D → Prop := fun H J items => WalkD T K J H items
def tDI (G : Gd) (E : XK) (K : PySem.W.Frag) (f : DE → R (List D)) : TI := fun σ H R => ∃ ρ, RepE G K H σ ρ ∧ Out G E (rW G.T K) H (f ρ) R
def PDI (G : Gd) (E : XK) (X : Cx) (tg e : Expr) (f : DE → R (List D)) : Prop := PI X tg e (tDI G E X.K f)
section
variable {G : Gd} {E : XK} {X : Cx} {tg a b e : Expr} {es : List Expr} {f g h : DE → R D} {fs : DE → R (List D)} {pos : Pos}
theorem pi_imp {t t' : TI} (h : PI X tg e t) (k : ∀ σ H Q, t' σ H Q → t σ H Q) : PI X tg e t' := ⟨fun pins s σ H Q I q => h.run pins s σ H Q I (k σ H Q q)⟩
theorem pi_bd {t : TI} (h : PI X tg e t) : PI X tg e (fun σ H R => t σ H fun J H1 => Bd X.K H1 → R J H1) := ⟨fun pins s σ H Q I q => by
  refine thn (h.run pins s σ H _ I q) fun u s1 hs => thn hs fun itv s2 hs => ?_
  obtain ⟨it, fp, tn, J, H2, e, I2, T, t0, fo, k⟩ := hs
  exact ⟨it, fp, tn, J, H2, e, I2, T, t0, fo, k (bd_of I2)⟩⟩
def iLst (f : DE → R D) : DE → R (List D) := fun ρ => (f ρ).bind fun d => match d with
  | .list ds => .ok ds
  | _ => .bad
def iTpl (f : DE → R D) : DE → R (List D) := fun ρ => (f ρ).bind fun d => match d with
  | .tuple ds => .ok ds
  | _ => .bad
def iChr (f : DE → R D) : DE → R (List D) := fun ρ => (f ρ).bind fun d => match d with
  | .str z => if z.length ≤ 100000 then .ok (chD z) else .bad
  | _ => .bad
theorem pdi_list (h : PD G E X e f) : PDI G E X tg e (iLst f) := by
  refine pi_imp (pi_list (pe_bd h)) ?_
  rintro σ H Q ⟨ρ, hr, ho⟩
  refine ⟨ρ, hr, (Out.bind (rel := Rp X.K) ho).mono ?_⟩
  rintro x H1 e1 - ⟨d1, hd1, _, hx, ho⟩ bd
  cases d1 with
  | list ds =>
    cases hx with
    | lst a b => exact ⟨_, rfl, ⟨_, .inl a⟩, ho _ H1 (Ex.refl H1) (walk_lst a b (bd.1 _ _ (.inl a)))⟩
  | _ => exact ho.elim
theorem pdi_tup (h : PD G E X e f) : PDI G E X tg e (iTpl f) := by
  refine pi_imp (pi_tup (pe_bd h)) ?_
  rintro σ H Q ⟨ρ, hr, ho⟩
  refine ⟨ρ, hr, (Out.bind (rel := Rp X.K) ho).mono ?_⟩
  rintro x H1 e1 - ⟨d1, hd1, _, hx, ho⟩ bd
  cases d1 with
  | tuple ds =>
    cases hx with
    | tup a b => exact ⟨_, rfl, ⟨_, a⟩, ho _ H1 (Ex.refl H1) (walk_tp a b (bd.2 _ _ a))⟩
  | _ => exact ho.elim
theorem pdi_str (h : PD G E X e f) : PDI G E X tg e (iChr f) := by
  refine pi_imp (pi_str h) ?_
  rintro σ H Q ⟨ρ, hr, ho⟩
  refine ⟨ρ, hr, (Out.bind (rel := Rp X.K) ho).mono ?_⟩
  rintro x H1 e1 - ⟨d1, hd1, _, hx, ho⟩
  cases d1 with
  | str z =>
    cases hx
    have ho : Out G E (rW G.T X.K) H1 (if z.length ≤ 100000 then R.ok (chD z) else .bad) Q := ho
    by_cases hz : z.length ≤ 100000
    · rw [if_pos hz] at ho
      exact ⟨_, rfl, ho _ H1 (Ex.refl H1) (walk_ch hz)⟩
    · rw [if_neg hz] at ho
      exact ho.elim
  | _ => exact ho.elim
def iRg1 (fs : DE → R (List D)) : DE → R (List D) := fun ρ => (fs ρ).bind fun l => match l with
  | [.int j] => if -100000 ≤ j ∧ j ≤ 100000 then .ok (rgD 0 j.toNat) else .bad
  | _ => .bad
def iRg2 (fs : DE → R (List D)) : DE → R (List D) := fun ρ => (fs ρ).bind fun l => match l with
  | [.int i, .int j] => if (-100000 ≤ i ∧ i ≤ 100000) ∧ -100000 ≤ j ∧ j ≤ 100000 then .ok (rgD i (j - i).toNat) else .bad
  | _ => .bad
theorem pdi_range1 {p : Pos} (hg : Gl X "range") (hm : X.mg "range" = none) (ha : PDA G E X [a] fs) (hs : starEach [a] X.env = [(false, eval a X.env)] := by rfl) : PDI G E X tg (.Call (.Name "range" p) [a] [] pos) (iRg1 fs) := by
  refine pi_imp (pi_range1 hg hm ha hs) ?_
  rintro σ H Q ⟨ρ, hr, ho⟩
  refine ⟨ρ, hr, (Out.bind (rel := RpAll X.K) ho).mono ?_⟩
  rintro x H1 e1 - ⟨d1, hd1, _, hx, ho⟩
  split at ho
  · rename_i l j
    cases hx with
    | cons h1 h2 =>
      cases h2
      cases h1
      by_cases hz : -100000 ≤ j ∧ j ≤ 100000
      · rw [if_pos hz] at ho
        exact ⟨_, rfl, by omega, by omega, ho _ H1 (Ex.refl H1) (walk_rg (by omega))⟩
      · rw [if_neg hz] at ho
        exact ho.elim
  · exact ho.elim
theorem pdi_range2 {p : Pos} (hg : Gl X "range") (hm : X.mg "range" = none) (ha : PDA G E X [a, b] fs) (hs : starEach [a, b] X.env = [(false, eval a X.env), (false, eval b X.env)] := by rfl) (hs2 : starEach [b] X.env = [(false, eval b X.env)] := by rfl) :
    PDI G E X tg (.Call (.Name "range" p) [a, b] [] pos) (iRg2 fs) := by
  refine pi_imp (pi_range2 hg hm ha hs hs2) ?_
  rintro σ H Q ⟨ρ, hr, ho⟩
  refine ⟨ρ, hr, (Out.bind (rel := RpAll X.K) ho).mono ?_⟩
  rintro x H1 e1 - ⟨d1, hd1, _, hx, ho⟩
  split at ho
  · rename_i l i j
    cases hx with
    | cons h1 h2 =>
      cases h2 with
      | cons h2 h3 =>
        cases h3
        cases h1; cases h2
        by_cases hz : (-100000 ≤ i ∧ i ≤ 100000) ∧ -100000 ≤ j ∧ j ≤ 100000
        · rw [if_pos hz] at ho
          exact ⟨_, _, rfl, by omega, ho _ H1 (Ex.refl H1) (walk_rg (by omega))⟩
        · rw [if_neg hz] at ho
          exact ho.elim
  · exact ho.elim
def iEn (fs : DE → R (List D)) : DE → R (List D) := fun ρ => (fs ρ).bind fun l => match l with
  | [.list ds] => .ok (enD ds)
  | _ => .bad
theorem pdi_enum {p tpos : Pos} {elts : List Expr} {kk : Nat} (hg : Gl X "enumerate") (hm : X.mg "enumerate" = none) (ha : PDA G E X [e] fs) (hs : starEach [e] X.env = [(false, eval e X.env)] := by rfl) :
    PDI G E X (.Tuple elts kk tpos) (.Call (.Name "enumerate" p) [e] [] pos) (iEn fs) := by
  refine pi_imp (pi_enum hg hm (pa_bd ha) hs) ?_
  rintro σ H Q ⟨ρ, hr, ho⟩
  refine ⟨ρ, hr, (Out.bind (rel := RpAll X.K) ho).mono ?_⟩
  rintro x H1 e1 - ⟨d1, hd1, _, hx, ho⟩ bd
  split at ho
  · cases hx with
    | cons h1 h2 =>
      cases h2
      cases h1 with
      | lst a b => exact ⟨_, _, rfl, .inl a, ho _ H1 (Ex.refl H1) (walk_en a b (bd.1 _ _ (.inl a)))⟩
  · exact ho.elim
def iZpA (fs : DE → R (List D)) : DE → R (List D) := fun ρ => (fs ρ).bind fun l => match l with
  | [.list ds, .list es] => .ok (zpD ds es)
  | [.tuple ds, .tuple es] => .ok (zpD ds es)
  | _ => .bad
def iZp (fs : DE → R (List D)) : DE → R (List D) := fun ρ => (fs ρ).bind fun l => match l with
  | [.list ds, .list es] => .ok (zpD ds es)
  | [.tuple ds, .tuple es] => .ok (zpD ds es)
  | [.tuple ds, .list es] => .ok (zpD ds es)
  | _ => .bad
theorem pdi_zipA {p tpos : Pos} {elts : List Expr} {kk : Nat} (hg : Gl X "zip") (hm : X.mg "zip" = none) (ha : PDA G E X [a, b] fs)
    (hs : starEach [a, b] X.env = (false, eval a X.env) :: starEach [b] X.env := by rfl) (hpl : (backTo pos (starEach [b] X.env)).any (·.1) = false := by rfl) :
    PDI G E X (.Tuple elts kk tpos) (.Call (.Name "zip" p) [a, b] [] pos) (iZpA fs) := by
  refine pi_imp (pi_zipA hg hm (pa_bd ha) hs hpl) ?_
  rintro σ H Q ⟨ρ, hr, ho⟩
  refine ⟨ρ, hr, (Out.bind (rel := RpAll X.K) ho).mono ?_⟩
  rintro x H1 e1 - ⟨d1, hd1, _, hx, ho⟩ bd
  split at ho
  · cases hx with
    | cons h1 h2 =>
      cases h2 with
      | cons h2 h3 =>
        cases h3
        cases h1 with
        | lst a1 b1 =>
          cases h2 with
          | lst a2 b2 => exact ⟨_, _, _, _, rfl, .inl ⟨.inl a1, .inl a2, ho _ H1 (Ex.refl H1) (walk_zpL a1 a2 b1 b2 (bd.1 _ _ (.inl a1)))⟩⟩
  · cases hx with
    | cons h1 h2 =>
      cases h2 with
      | cons h2 h3 =>
        cases h3
        cases h1 with
        | tup a1 b1 =>
          cases h2 with
          | tup a2 b2 => exact ⟨_, _, _, _, rfl, .inr ⟨a1, a2, ho _ H1 (Ex.refl H1) (walk_zpT a1 a2 b1 b2 (bd.2 _ _ a1))⟩⟩
  · exact ho.elim
/-- of a tuple and a list -/
theorem pdi_zip {p tpos : Pos} {elts : List Expr} {kk : Nat} (hg : Gl X "zip") (hm : X.mg "zip" = none) (ha : PDA G E X [a, b] fs)
    (hs : starEach [a, b] X.env = (false, eval a X.env) :: starEach [b] X.env := by rfl) (hpl : (backTo pos (starEach [b] X.env)).any (·.1) = false := by rfl) :
    PDI G E X (.Tuple elts kk tpos) (.Call (.Name "zip" p) [a, b] [] pos) (iZp fs) := ⟨fun pins s σ H Q I hq => by
  obtain ⟨ρ, hr, ho⟩ := hq
  have em : (∃ ds es, fs ρ = .ok [.tuple ds, .list es]) ∨ ¬ ∃ ds es, fs ρ = .ok [.tuple ds, .list es] := Classical.em _
  rcases em with ⟨ds, es, hf⟩ | hno
  · refine (pi_zipM hg hm (pa_bd ha) hs hpl).run pins s σ H Q I ⟨ρ, hr, ?_⟩
    have ho : Out G E (rW G.T X.K) H (iZp fs ρ) Q := ho
    unfold iZp at ho
    rw [hf] at ho ⊢
    have ho : ∀ J H', Ex G.T H H' → rW G.T X.K H' J (zpD ds es) → Q J H' := ho
    intro vs H1 e1 hx bd
    cases hx with
    | cons h1 h2 =>
      cases h2 with
      | cons h2 h3 =>
        cases h3
        cases h1 with
        | tup a1 b1 =>
          cases h2 with
          | lst a2 b2 => exact ⟨_, _, _, _, rfl, a1, .inl a2, ho _ H1 e1 (walk_zpM a1 a2 b1 b2 (bd.2 _ _ a1))⟩
  · refine (pdi_zipA hg hm ha hs hpl).run pins s σ H Q I ⟨ρ, hr, ?_⟩
    have e : iZp fs ρ = iZpA fs ρ := by
      unfold iZp iZpA
      cases hf : fs ρ with
      | bad => rfl
      | err c => rfl
      | ok l =>
        simp only [R.bind]
        split
        · rfl
        · rfl
        · exact absurd ⟨_, _, hf⟩ hno
        · rename_i h1 h2 h3
          split
          · exact absurd rfl (h1 _ _)
          · exact absurd rfl (h2 _ _)
          · rfl
    rw [← e]
    exact ho⟩
end

/-! ### targets -/
inductive TP where
  | nm (i : Nat) | pr (a b : TP) | tr (a b c : TP)
def TP.names : TP → List Nat
  | .nm i => [i]
  | .pr a b => a.names ++ b.names
  | .tr a b c => a.names ++ b.names ++ c.names
def TP.g (K : PySem.W.Frag) : TP → TG
  | .nm i => gName i
  | .pr a b => gTup K 2 (gCons (a.g K) (gCons (b.g K) gNil))
  | .tr a b c => gTup K 3 (gCons (a.g K) (gCons (b.g K) (gCons (c.g K) gNil)))
def two : D → Option (D × D)
  | .tuple [x, y] => some (x, y)
  | _ => none
def three : D → Option (D × D × D)
  | .tuple [x, y, z] => some (x, y, z)
  | _ => none
theorem two_eq {d x y : D} (h : two d = some (x, y)) : d = .tuple [x, y] := by
  unfold two at h
  split at h
  · cases h
    rfl
  · cases h
theorem three_eq {d x y z : D} (h : three d = some (x, y, z)) : d = .tuple [x, y, z] := by
  unfold three at h
  split at h
  · cases h
    rfl
  · cases h
def TP.bindE : TP → D → DE → R DE
  | .nm i, d, ρ => .ok (ρ.set i (some d))
  | .pr a b, d, ρ => match two d with
    | some (x, y) => (a.bindE x ρ).bind fun ρ => b.bindE y ρ
    | none => .bad
  | .tr a b c, d, ρ => match three d with
    | some (x, y, z) => (a.bindE x ρ).bind fun ρ => (b.bindE y ρ).bind fun ρ => c.bindE z ρ
    | none => .bad
def PGT (X : Cx) (tg : Expr) (p : TP) : Prop := PG X tg (p.g X.K)
section
variable {X : Cx} {t1 t2 t3 : Expr} {p q r : TP} {pos : Pos}
theorem pgt_nm {i : Nat} {x : Str} (hN : X.N.Nodup) (hi : X.N[i]? = some x) (hx : Loc X.env.scope x) (hf : X.fn x = true ∨ X.env.scope.names.lookup x = some .local := by first | exact .inl rfl | exact .inr rfl | assumption) : PGT X (.Name x pos) (.nm i) := pg_name hN hi hx hf
theorem pgt_pr {k : Nat} (hc : X.calm = true) (h1 : PGT X t1 p) (h2 : PGT X t2 q) (a1 : (assignEach [t1, t2] X.env).map (·.2) = assign t1 X.env :: (assignEach [t2] X.env).map (·.2) := by rfl) (a2 : (assignEach [t2] X.env).map (·.2) = assign t2 X.env :: (assignEach [] X.env).map (·.2) := by rfl)
    (hn : (assignEach [t1, t2] X.env).length = 2 := by rfl) (hst : (assignEach [t1, t2] X.env).findIdx? (·.1) = none := by rfl) : PGT X (.Tuple [t1, t2] k pos) (.pr p q) := pg_tup hc (pgs_cons h1 (pgs_cons h2 pgs_nil a2) a1) hn hst
theorem pgt_tr {k : Nat} (hc : X.calm = true) (h1 : PGT X t1 p) (h2 : PGT X t2 q) (h3 : PGT X t3 r) (a1 : (assignEach [t1, t2, t3] X.env).map (·.2) = assign t1 X.env :: (assignEach [t2, t3] X.env).map (·.2) := by rfl) (a2 : (assignEach [t2, t3] X.env).map (·.2) = assign t2 X.env :: (assignEach [t3] X.env).map (·.2) := by rfl) (a3 : (assignEach [t3] X.env).map (·.2) = assign t3 X.env :: (assignEach [] X.env).map (·.2) := by rfl)
    (hn : (assignEach [t1, t2, t3] X.env).length = 3 := by rfl) (hst : (assignEach [t1, t2, t3] X.env).findIdx? (·.1) = none := by rfl) : PGT X (.Tuple [t1, t2, t3] k pos) (.tr p q r) := pg_tup hc (pgs_cons h1 (pgs_cons h2 (pgs_cons h3 pgs_nil a3) a2) a1) hn hst
end
section
variable {G : Gd} {K : PySem.W.Frag} {H : Hp} {σ : L2.St} {ρ ρ' : DE}
theorem repE_set {i : Nat} {v : V} {d : D} (h : RepE G K H σ ρ) (r : Rp K H v d) : RepE G K H (σ.set i (some v)) (ρ.set i (some d)) := by
  obtain ⟨ht, hs, hl⟩ := h
  refine ⟨ht, fun j e hj => ?_, by rw [List.length_set, List.length_set]; exact hl⟩
  by_cases hij : i = j
  · subst hij
    have hi : i < ρ.length := by
      have := (List.getElem?_eq_some_iff.mp hj).1
      rwa [List.length_set] at this
    rw [List.getElem?_set_self hi] at hj
    cases hj
    exact ⟨v, by rw [List.getElem?_set_self (by omega)], r⟩
  · rw [List.getElem?_set_ne hij] at hj
    obtain ⟨w, h1, h2⟩ := hs j e hj
    exact ⟨w, by rw [List.getElem?_set_ne hij]; exact h1, h2⟩
theorem wipe_set {σ : L2.St} {vs : List Nat} {i : Nat} {x : Option V} (h : i ∈ vs) : wipe (σ.set i x) vs = wipe σ vs := by
  induction vs with
  | nil => cases h
  | cons v vs ih =>
    have e : ∀ (σ : L2.St), wipe σ (v :: vs) = (wipe σ vs).set v none := fun _ => rfl
    rw [e, e]
    by_cases hv : i ∈ vs
    · rw [ih hv]
    · have hiv : i = v := (List.mem_cons.mp h).resolve_right hv
      subst hiv
      have key : ∀ (ws : List Nat), i ∉ ws → wipe (σ.set i x) ws = (wipe σ ws).set i x := by
        intro ws
        induction ws with
        | nil => intro _; rfl
        | cons w ws ih2 =>
          intro hw
          have hw1 : i ≠ w := fun z => hw (by rw [z]; exact List.mem_cons_self)
          have hw2 : i ∉ ws := fun z => hw (List.mem_cons_of_mem _ z)
          show (wipe (σ.set i x) ws).set w none = ((wipe σ ws).set w none).set i x
          rw [ih2 hw2, List.set_comm _ _ hw1]
      rw [key vs hv, List.set_set]
theorem bindE_g {H' : Hp} (hsub : Sub H H') : ∀ (p : TP) (d : D) (σ : L2.St) (ρ ρ' : DE) (v : V) (Q : L2.St → Hp → Prop), RepE G K H σ ρ → Rp K H v d → p.bindE d ρ = .ok ρ' →
    (∀ σ', RepE G K H σ' ρ' → (∀ vs : List Nat, (∀ i ∈ p.names, i ∈ vs) → wipe σ' vs = wipe σ vs) → Q σ' H') → p.g K v σ H' Q
  | .nm i, d, σ, ρ, ρ', v, Q, h, r, e, k => by
    cases e
    exact k _ (repE_set h r) fun vs hv => wipe_set (hv i (by simp [TP.names]))
  | .pr a b, d, σ, ρ, ρ', v, Q, h, r, e, k => by
    unfold TP.bindE at e
    split at e
    · rename_i x y he
      have q := two_eq he
      subst q
      cases r with
      | tup a1 b1 =>
        cases b1 with
        | cons r1 b2 =>
          cases b2 with
          | cons r2 b3 =>
            cases b3
            cases e1 : a.bindE x ρ with
            | ok ρ1 =>
              rw [e1] at e
              refine ⟨_, _, rfl, sqT_ext (LamX.ExtN.of hsub) a1, rfl, _, _, rfl, bindE_g hsub a x σ ρ ρ1 _ _ h r1 e1 fun σ1 g1 w1 => ?_⟩
              refine ⟨_, _, rfl, bindE_g hsub b y σ1 ρ1 ρ' _ _ g1 r2 e fun σ2 g2 w2 => ⟨rfl, k σ2 g2 fun vs hv => ?_⟩⟩
              rw [w2 vs fun i hi => hv i (by simp only [TP.names, List.mem_append]; exact .inr hi), w1 vs fun i hi => hv i (by simp only [TP.names, List.mem_append]; exact .inl hi)]
            | err c => rw [e1] at e; cases e
            | bad => rw [e1] at e; cases e
    · cases e
  | .tr a b c, d, σ, ρ, ρ', v, Q, h, r, e, k => by
    unfold TP.bindE at e
    split at e
    · rename_i x y z he
      have q := three_eq he
      subst q
      cases r with
      | tup a1 b1 =>
        cases b1 with
        | cons r1 b2 =>
          cases b2 with
          | cons r2 b3 =>
            cases b3 with
            | cons r3 b4 =>
              cases b4
              cases e1 : a.bindE x ρ with
              | ok ρ1 =>
                rw [e1] at e
                simp only [R.ok_bind] at e
                cases e2 : b.bindE y ρ1 with
                | ok ρ2 =>
                  rw [e2] at e
                  simp only [R.ok_bind] at e
                  refine ⟨_, _, rfl, sqT_ext (LamX.ExtN.of hsub) a1, rfl, _, _, rfl, bindE_g hsub a x σ ρ ρ1 _ _ h r1 e1 fun σ1 g1 w1 => ?_⟩
                  refine ⟨_, _, rfl, bindE_g hsub b y σ1 ρ1 ρ2 _ _ g1 r2 e2 fun σ2 g2 w2 => ?_⟩
                  refine ⟨_, _, rfl, bindE_g hsub c z σ2 ρ2 ρ' _ _ g2 r3 e fun σ3 g3 w3 => ⟨rfl, k σ3 g3 fun vs hv => ?_⟩⟩
                  rw [w3 vs fun i hi => hv i (by simp only [TP.names, List.mem_append]; exact .inr hi), w2 vs fun i hi => hv i (by simp only [TP.names, List.mem_append]; exact .inl (.inr hi)), w1 vs fun i hi => hv i (by simp only [TP.names, List.mem_append]; exact .inl (.inl hi))]
                | err c => rw [e2] at e; cases e
                | bad => rw [e2] at e; cases e
              | err c => rw [e1] at e; cases e
              | bad => rw [e1] at e; cases e
    · cases e
end
end DL
set_option Elab.async false
set_option linter.all false
set_option maxRecDepth 100000
set_option maxHeartbeats 4000000
/-! DL5: comprehensions, calls of defs. -/
namespace DL
open PySem PySem.Spec PyProof.Rows L2 RZ

def wipeE (ρ : DE) : List Nat → DE
  | [] => ρ
  | v :: vs => (wipeE ρ vs).set v none
def compL (ρ : DE) (p : TP) (ft : DE → R Bool) (fe : DE → R D) : List D → R (List D)
  | [] => .ok []
  | d :: r => (p.bindE d ρ).bind fun ρ1 => (ft ρ1).bind fun b => if b = true then (fe ρ1).bind fun y => (compL ρ p ft fe r).bind fun l => .ok (y :: l) else compL ρ p ft fe r
def eComp (vs : List Nat) (fi : DE → R (List D)) (p : TP) (ft : DE → R Bool) (fe : DE → R D) : DE → R D := fun ρ => (fi ρ).bind fun items => ((compL (wipeE ρ vs) p ft fe items).pure?).bind fun l => .ok (.list l)
def tTrue : DE → R Bool := fun _ => .ok true

section
variable {G : Gd} {E : XK} {X : Cx} {K : PySem.W.Frag} {H : Hp} {σ : L2.St} {ρ : DE} {e elt tg iter : Expr} {es ifs : List Expr} {pos : Pos}
theorem wipeE_len : ∀ (vs : List Nat), (wipeE ρ vs).length = ρ.length
  | [] => rfl
  | v :: vs => by
    show ((wipeE ρ vs).set v none).length = _
    rw [List.length_set, wipeE_len vs]
theorem wipeE_at {i : Nat} {d : D} : ∀ {vs : List Nat}, (wipeE ρ vs)[i]? = some (some d) → ρ[i]? = some (some d) ∧ i ∉ vs
  | [], h => ⟨h, by simp⟩
  | v :: vs, h => by
    have h : ((wipeE ρ vs).set v none)[i]? = some (some d) := h
    by_cases hi : v = i
    · subst hi
      by_cases hv : v < (wipeE ρ vs).length
      · rw [List.getElem?_set_self hv] at h
        cases h
      · rw [List.getElem?_eq_none (by rw [List.length_set]; omega)] at h
        cases h
    · rw [List.getElem?_set_ne hi] at h
      obtain ⟨h1, h2⟩ := wipeE_at h
      exact ⟨h1, fun z => (List.mem_cons.mp z).elim (fun q => hi q.symm) h2⟩
theorem wipe_at {i : Nat} : ∀ {vs : List Nat}, i ∉ vs → (wipe σ vs)[i]? = σ[i]?
  | [], _ => rfl
  | v :: vs, h => by
    show ((wipe σ vs).set v none)[i]? = _
    rw [List.getElem?_set_ne (fun z => h (by rw [z]; exact List.mem_cons_self)), wipe_at fun z => h (List.mem_cons_of_mem _ z)]
theorem wipe_mem {i : Nat} : ∀ {vs : List Nat}, i ∈ vs → i < σ.length → (wipe σ vs)[i]? = some none
  | v :: vs, h, hl => by
    show ((wipe σ vs).set v none)[i]? = some none
    by_cases e : v = i
    · subst e
      rw [List.getElem?_set_self (by rw [wipe_length]; exact hl)]
    · rw [List.getElem?_set_ne e]
      exact wipe_mem ((List.mem_cons.mp h).resolve_left fun z => e z.symm) hl
theorem wipe_wipe (vs : List Nat) : wipe (wipe σ vs) vs = wipe σ vs := by
  refine List.ext_getElem? fun i => ?_
  by_cases h : i ∈ vs
  · by_cases hl : i < σ.length
    · rw [wipe_mem h (by rw [wipe_length]; exact hl), wipe_mem h hl]
    · rw [List.getElem?_eq_none (by rw [wipe_length, wipe_length]; omega), List.getElem?_eq_none (by rw [wipe_length]; omega)]
  · rw [wipe_at h]
theorem repE_wipe (vs : List Nat) (h : RepE G K H σ ρ) : RepE G K H (wipe σ vs) (wipeE ρ vs) := ⟨h.1, fun i d hi => by
  obtain ⟨h1, h2⟩ := wipeE_at hi
  obtain ⟨v, q1, q2⟩ := h.2.1 i d h1
  exact ⟨v, by rw [wipe_at h2]; exact q1, q2⟩, by rw [wipe_length, wipeE_len]; exact h.2.2⟩
def PDTs (G : Gd) (E : XK) (X : Cx) (ifs : List Expr) (f : DE → R Bool) : Prop := PTs X ifs (tDT G E X.K f)
theorem pdts_nil : PDTs G E X [] tTrue := ⟨fun pins s σ H Q I ⟨ρ, hr, ho⟩ => (pts_nil (X := X)).run pins s σ H Q I (ho true H (Ex.refl H) rfl)⟩
theorem pdts_one {f : DE → R Bool} (h : PDT G E X e f) : PDTs G E X [e] f := pts_one h
theorem pts_hide {t : TT} (h : PTs X ifs t) : PTs X ifs (tHideT t) := ⟨fun pins s σ H Q I q => by
  obtain ⟨L, hL, q⟩ := q
  refine thn (h.run _ s σ _ _ (inv_hide I hL) q) fun u s' hs => ?_
  obtain ⟨H2, J, k⟩ := hs
  exact ⟨_, inv_unhide I hL J, k (inv_none I hL J)⟩⟩
theorem hid_new {p : Addr} {o : HO} (h : H p = none) : hid (upd H p o) [p] = H := by
  funext a
  by_cases e : a = p
  · subst e
    rw [hid_in (by simp), h]
  · rw [hid_out (by simp [e]), upd_ne e]
theorem hid_updI {p : Addr} {o : HO} {L : List Addr} (h : p ∈ L) : hid (upd H p o) L = hid H L := by
  funext a
  by_cases ha : a ∈ L
  · rw [hid_in ha, hid_in ha]
  · rw [hid_out ha, hid_out ha, upd_ne (fun z => ha (by rw [z]; exact h))]
theorem owns_one {p : Addr} {vs : List V} (h : H p = some (.lst vs)) : Owns H [p] := fun a ha => by
  have e : a = p := by simpa using ha
  exact ⟨vs, by rw [e]; exact h⟩
theorem bind_ok {α β : Type} {r : R α} {k : α → R β} {b : β} (h : r.bind k = .ok b) : ∃ a, r = .ok a ∧ k a = .ok b := by
  cases r with
  | ok a => exact ⟨a, rfl, h⟩
  | err c => cases h
  | bad => cases h
theorem pd_lc {scope : Scope} {own : List (Str × Nat)} {fi : DE → R (List D)} {p : TP} {ft : DE → R Bool} {fe : DE → R D} (hc : X.calm = true) (hN : X.N.Nodup) (hi : PDI G E X tg iter fi) (ok : BlkOk X.N X.env.scope scope own) (hp : ∀ i ∈ p.names, i ∈ own.map (·.2))
    (hg : ∀ (s : Shared) (H : Hp) (C : Addr) (cl : List (Str × Addr)) (fp : List Addr), PGT (X.blk s H scope (compEnvC scope cl C X.env) fp) tg p) (ht : ∀ (s : Shared) (H : Hp) (C : Addr) (cl : List (Str × Addr)) (fp : List Addr), PDTs G E0 (X.blk s H scope (compEnvC scope cl C X.env) fp) ifs ft)
    (he : ∀ (s : Shared) (H : Hp) (C : Addr) (cl : List (Str × Addr)) (fp : List Addr), PD G E0 (X.blk s H scope (compEnvC scope cl C X.env) fp) elt fe) (hs : ∀ x, foldedSetIterable iter X.env x = pure x := by intro _; rfl) :
    PD G E X (.ListComp elt [⟨tg, iter, ifs, 0⟩] scope pos) (eComp (own.map (·.2)) fi p ft fe) := by
  refine pe_imp (pe_lc (g := p.g X.K) (tt := tHideT (tDT G E0 X.K ft)) (te := tHide (tD G E0 X.K fe)) hc hN hi ok hg (fun s H C cl fp => pts_hide (ht s H C cl fp)) (fun s H C cl fp => pe_hide (he s H C cl fp)) hs) ?_
  rintro σ H Q ⟨ρ, hr, ho⟩
  refine ⟨ρ, hr, (Out.bind (rel := rW G.T X.K) ho).mono ?_⟩
  rintro J H1 e1 - ⟨items, hit, _, w, ho⟩ Da hD
  obtain ⟨total, htot⟩ : ∃ total, compL (wipeE ρ (own.map (·.2))) p ft fe items = .ok total := by
    cases q : compL (wipeE ρ (own.map (·.2))) p ft fe items with
    | ok l => exact ⟨l, rfl⟩
    | err c => rw [q] at ho; exact ho.elim
    | bad => rw [q] at ho; exact ho.elim
  rw [htot] at ho
  have ho : ∀ v H', Ex G.T H1 H' → Rp X.K H' v (.list total) → Q v H' := ho
  have hr1 : RepE G X.K H1 (wipe σ (own.map (·.2))) (wipeE ρ (own.map (·.2))) := repE_wipe _ (hr.ext e1)
  generalize hvs : own.map (·.2) = vs at htot hr1 hp ⊢
  refine ⟨fun i m H => m = items.length - i ∧ i ≤ items.length ∧ Ex G.T H1 (hid H [Da]) ∧ ∃ acc ds rest, H Da = some (.lst acc) ∧ RpAll X.K (hid H [Da]) acc ds ∧ acc.length ≤ i ∧ compL (wipeE ρ vs) p ft fe (items.drop i) = .ok rest ∧ total = ds ++ rest,
    ⟨_, rfl, Nat.zero_le _, by rw [hid_new hD]; exact Ex.refl _, [], [], total, upd_same, .nil, Nat.le_refl _, htot, rfl⟩, ?_⟩
  rintro i m H ⟨rfl, hile, ex, acc, ds, rest, hacc, hra, hlen, hcl, htt⟩
  have own1 : Owns H [Da] := owns_one hacc
  have exH : Ex G.T H1 H := ex.trans (hid_sub.ex)
  by_cases hlt : i < items.length
  · refine .inr ⟨w.go i H exH hlt, fun H' => ∃ acc ds rest, Ex G.T H1 (hid H' [Da]) ∧ H' Da = some (.lst acc) ∧ RpAll X.K (hid H' [Da]) acc ds ∧ acc.length ≤ i + 1 ∧ compL (wipeE ρ vs) p ft fe (items.drop (i + 1)) = .ok rest ∧ total = ds ++ rest,
      fun H' ⟨acc, ds, rest, q0, q1, q2, q3, q4, q5⟩ => ⟨items.length - (i + 1), by omega, rfl, hlt, q0, acc, ds, rest, q1, q2, q3, q4, q5⟩, fun x H2 hy => ?_⟩
    obtain ⟨e2, same2, d, hd, rx⟩ := w.yld i H x H2 [Da] exH own1 (fun a ha => by rw [show a = Da by simpa using ha]; exact hD) hlt hy
    have hacc2 : H2 Da = some (.lst acc) := by rw [same2 Da (by simp)]; exact hacc
    have hdrop : items.drop i = d :: items.drop (i + 1) := by
      rw [List.drop_eq_getElem_cons hlt]
      rw [List.getElem?_eq_getElem hlt] at hd
      rw [Option.some.inj hd]
    rw [hdrop] at hcl
    obtain ⟨ρ1, hb, hcl⟩ := bind_ok hcl
    obtain ⟨b, hft, hcl⟩ := bind_ok hcl
    refine bindE_g (H := hid H2 [Da]) hid_sub p d _ _ ρ1 x _ (hr1.ext (ex.trans e2)) rx hb fun σ2 rep2 wip => ⟨(wip vs hp).trans (wipe_wipe vs), ?_⟩
    refine ⟨[Da], owns_one hacc2, ρ1, rep2, ?_⟩
    rw [hft]
    intro b' H3 e3 hb' hn3
    have hb' : b' = b := hb'
    subst hb'
    have h3 : unh H2 [Da] H3 Da = some (.lst acc) := by rw [unh_in (by simp)]; exact hacc2
    have hh3 : hid (unh H2 [Da] H3) [Da] = H3 := hid_unh hn3
    cases b' with
    | true =>
      rw [if_pos rfl] at hcl ⊢
      obtain ⟨y, hfe, hcl⟩ := bind_ok hcl
      obtain ⟨rest', hcl', hcl2⟩ := bind_ok hcl
      cases hcl2
      refine ⟨[Da], owns_one h3, ρ1, ?_, ?_⟩
      · rw [hh3]
        exact rep2.ext e3
      · rw [hfe, hh3]
        intro yv H4 e4 ry hn4
        have h4 : unh (unh H2 [Da] H3) [Da] H4 Da = some (.lst acc) := by rw [unh_in (by simp)]; exact h3
        have hh4 : hid (upd (unh (unh H2 [Da] H3) [Da] H4) Da (.lst (acc ++ [yv]))) [Da] = H4 := by
          rw [hid_updI (by simp), hid_unh hn4]
        refine ⟨acc, h4, Nat.lt_of_lt_of_le (Nat.lt_of_le_of_lt hlen hlt) w.small, acc ++ [yv], ds ++ [y], rest', ?_, upd_same, ?_, ?_, hcl', ?_⟩
        · rw [hh4]
          exact ((ex.trans e2).trans e3).trans e4
        · rw [hh4]
          exact RpAll.app (((e2.trans e3).trans e4).rps hra) (.cons ry .nil)
        · rw [List.length_append, List.length_singleton]
          omega
        · rw [htt]
          simp
    | false =>
      rw [if_neg Bool.false_ne_true] at hcl ⊢
      refine ⟨acc, ds, rest, ?_, h3, ?_, by omega, hcl, htt⟩
      · rw [hh3]
        exact (ex.trans e2).trans e3
      · rw [hh3]
        exact (e2.trans e3).rps hra
  · have ei : i = items.length := by omega
    subst ei
    rw [List.drop_length] at hcl
    cases hcl
    rw [List.append_nil] at htt
    subst htt
    exact .inl ⟨w.stop H exH, ho (.ref Da) H exH (.lst (.inl hacc) ((Sub.ex (T := G.T) hid_sub).rps hra))⟩

/-! ### calls -/
/-- the promise: what is handed in reads as data, what comes back reads as F of them, or F's refusal -/
def spD (G : Gd) (K : PySem.W.Frag) (n : Nat) (F : List D → R D) : Sp := fun vs H Q E => vs.length = n ∧ LamX.Tabs G.T H ∧ ∃ ds, RpAll K H vs ds ∧ Out G E (Rp K) H (F ds) Q
theorem pd_call {k : Nat} {f : Addr} {fd : FuncData} {ps : List Str} {F : List D → R D} {fs : DE → R (List D)} {x : Str} {p : Pos} {n : Nat} (Fn : FnOk X.prog X.w X.K X.mg X.base (L2N.CX X.prog X.w) k f fd ps (spD G X.K n F)) (hr : Room k X.A) (hg : Gl X x) (hm : X.mg x = some (.ref f)) (hk : PySem.W.keepIn X.K (.ref f) = true) (hb : Binds X.K fd ps [])
    (hx : Passes (L2N.CX X.prog X.w) X E) (ha : PDA G E X (e :: es) fs) (hn : ∀ ρ l, fs ρ = .ok l → l.length = n) (hdb : (x == ("__debug__" : Str)) = false := by decide) (he : starEach (e :: es) X.env = (false, eval e X.env) :: starEach es X.env := by rfl) (hpl : (backTo pos (starEach es X.env)).any (·.1) = false := by rfl) :
    PD G E X (.Call (.Name x p) (e :: es) [] pos) (eCall F fs) := by
  refine pe_imp (pe_call Fn hr hg hm hk hb .nil hx ha hdb he hpl) ?_
  rintro σ H Q ⟨ρ, hr, ho⟩
  refine ⟨ρ, hr, (Out.bind (rel := RpAll X.K) ho).mono ?_⟩
  rintro xs H1 e1 - ⟨ds, hds, _, hx, ho⟩
  refine ⟨?_, e1.tabs hr.1, ds, by rw [List.append_nil]; exact hx, ho⟩
  rw [List.append_nil, RpAll.len hx]
  exact hn ρ ds hds
theorem pd_call0 {k : Nat} {f : Addr} {fd : FuncData} {ps : List Str} {F : List D → R D} {x : Str} {p : Pos} (Fn : FnOk X.prog X.w X.K X.mg X.base (L2N.CX X.prog X.w) k f fd ps (spD G X.K 0 F)) (hr : Room k X.A) (hg : Gl X x) (hm : X.mg x = some (.ref f)) (hk : PySem.W.keepIn X.K (.ref f) = true) (hb : Binds X.K fd ps [])
    (hx : Passes (L2N.CX X.prog X.w) X E) (hdb : (x == ("__debug__" : Str)) = false := by decide) : PD G E X (.Call (.Name x p) [] [] pos) (eCall F aNil) := by
  refine pe_imp (pe_call0 Fn hr hg hm hk hb .nil hx hdb) ?_
  rintro σ H Q ⟨ρ, hr, ho⟩
  exact ⟨rfl, hr.1, [], .nil, ho⟩
end
end DL
set_option Elab.async false
set_option linter.all false
set_option maxRecDepth 100000
set_option maxHeartbeats 4000000
/-! DL6: statements by plain data; lists of a def's own. -/
namespace DL
open PySem PySem.Spec PyProof.Rows L2 RZ

/-- a slot: nothing, data, a list of the def's own that it may still change -/
inductive Sl where
  | no | fz (d : D) | ow (ds : List D)
abbrev SE := List Sl
inductive Fl where
  | nx (ρ : SE) | rt (d : D) | bk (ρ : SE) | ct (ρ : SE)
  /-- a list of the def's own is handed out -/
  | ro (ds : List D)
abbrev SB := SE → R Fl
def vwS (S : List Nat) (i : Nat) : Sl → Option D
  | .fz d => some d
  | .ow ds => if i ∈ S then some (.list ds) else none
  | .no => none
def frS (S : List Nat) (i : Nat) : Sl → Sl
  | .ow ds => if i ∈ S then .fz (.list ds) else .ow ds
  | s => s
def vw (S : List Nat) (ρ : SE) : DE := ρ.mapIdx (vwS S)
def frz (S : List Nat) (ρ : SE) : SE := ρ.mapIdx (frS S)
def th (S : List Nat) (b : Bool) (ρ : SE) : SE := if b = true then ρ else frz S ρ

structure RepS (G : Gd) (K : PySem.W.Frag) (B H : Hp) (σ : L2.St) (ρ : SE) (ad : Nat → Addr) (L : List Addr) : Prop where
  mem : ∀ (i : Nat) ds, ρ[i]? = some (.ow ds) → ad i ∈ L
  own : ∀ a ∈ L, ∃ (i : Nat) (ds : List D), ρ[i]? = some (.ow ds) ∧ a = ad i
  lst : ∀ (i : Nat) ds, ρ[i]? = some (.ow ds) → σ[i]? = some (some (.ref (ad i))) ∧ ∃ vs, H (ad i) = some (.lst vs) ∧ RpAll K (hid H L) vs ds
  inj : ∀ (i j : Nat) ds es, ρ[i]? = some (.ow ds) → ρ[j]? = some (.ow es) → ad i = ad j → i = j
  fz : ∀ (i : Nat) d, ρ[i]? = some (.fz d) → ∃ v, σ[i]? = some (some v) ∧ Rp K (hid H L) v d
  len : σ.length = ρ.length
  ex : Ex G.T B (hid H L)
  tabs : LamX.Tabs G.T (hid H L)

section
variable {G : Gd} {K : PySem.W.Frag} {B B' H H1 H2 H' : Hp} {σ : L2.St} {ρ : SE} {ad : Nat → Addr} {L : List Addr}
theorem RepS.owns (r : RepS G K B H σ ρ ad L) : Owns H L := fun a ha => by
  obtain ⟨i, ds, e, rfl⟩ := r.own a ha
  obtain ⟨_, vs, q, _⟩ := r.lst i ds e
  exact ⟨vs, q⟩
theorem RepS.exH (r : RepS G K B H σ ρ ad L) : Ex G.T B H := r.ex.trans (hid_sub.ex)
theorem RepS.base (r : RepS G K B H σ ρ ad L) (e : Ex G.T B' B) : RepS G K B' H σ ρ ad L := ⟨r.mem, r.own, r.lst, r.inj, r.fz, r.len, e.trans r.ex, r.tabs⟩
theorem repS_none (r : RepS G K B H σ ρ ad L) : ∀ a ∈ L, B a = none := fun a ha => r.ex.free (hid_in ha)
/-- the heap grows beside what is owned -/
theorem RepS.step (r : RepS G K B H σ ρ ad L) (e : Ex G.T (hid H L) (hid H' L)) (s : ∀ a ∈ L, H' a = H a) : RepS G K B H' σ ρ ad L :=
  ⟨r.mem, r.own, fun i ds q => by
    obtain ⟨h1, vs, h2, h3⟩ := r.lst i ds q
    exact ⟨h1, vs, by rw [s _ (r.mem i ds q)]; exact h2, e.rps h3⟩, r.inj, fun i d q => by
    obtain ⟨v, h1, h2⟩ := r.fz i d q
    exact ⟨v, h1, e.rp h2⟩, r.len, r.ex.trans e, e.tabs r.tabs⟩

def ownS (S : List Nat) (ρ : SE) (ad : Nat → Addr) : List Addr := S.filterMap fun (i : Nat) => match (ρ[i]? : Option Sl) with
  | some (Sl.ow _) => some (ad i)
  | _ => none
theorem mem_ownS {S : List Nat} {a : Addr} : a ∈ ownS S ρ ad ↔ ∃ i ∈ S, ∃ ds, ρ[i]? = some (.ow ds) ∧ a = ad i := by
  unfold ownS
  rw [List.mem_filterMap]
  constructor
  · rintro ⟨i, hi, e⟩
    split at e
    · rename_i ds h
      exact ⟨i, hi, ds, h, (Option.some.inj e).symm⟩
    · cases e
  · rintro ⟨i, hi, ds, h, rfl⟩
    exact ⟨i, hi, by rw [h]⟩
theorem hid_hid {L' : List Addr} (h : ∀ a ∈ L', a ∈ L) (M : List Addr) (hM : ∀ a, a ∈ L ↔ a ∈ L' ∨ a ∈ M) : hid (hid H L') M = hid H L := by
  funext a
  by_cases h1 : a ∈ L
  · rw [hid_in h1]
    by_cases h2 : a ∈ M
    · rw [hid_in h2]
    · rw [hid_out h2, hid_in (((hM a).mp h1).resolve_right h2)]
  · have h2 : a ∉ M := fun z => h1 ((hM a).mpr (.inr z))
    have h3 : a ∉ L' := fun z => h1 (h a z)
    rw [hid_out h1, hid_out h2, hid_out h3]
theorem frz_ow {S : List Nat} {i : Nat} {ds : List D} : (frz S ρ)[i]? = some (.ow ds) ↔ ρ[i]? = some (.ow ds) ∧ i ∉ S := by
  unfold frz
  rw [List.getElem?_mapIdx]
  cases h : ρ[i]? with
  | none => simp
  | some s =>
    cases s with
    | ow es =>
      by_cases hi : i ∈ S
      · simp [frS, hi]
      · simp [frS, hi]
    | fz d => simp [frS]
    | no => simp [frS]
theorem frz_fz {S : List Nat} {i : Nat} {d : D} (h : (frz S ρ)[i]? = some (.fz d)) : ρ[i]? = some (.fz d) ∨ ∃ ds, ρ[i]? = some (.ow ds) ∧ i ∈ S ∧ d = .list ds := by
  unfold frz at h
  rw [List.getElem?_mapIdx] at h
  cases q : ρ[i]? with
  | none => rw [q] at h; cases h
  | some s =>
    rw [q] at h
    cases s with
    | ow es =>
      by_cases hi : i ∈ S
      · have h : some (if i ∈ S then Sl.fz (.list es) else .ow es) = some (.fz d) := h
        rw [if_pos hi] at h
        cases h
        exact .inr ⟨es, rfl, hi, rfl⟩
      · have h : some (if i ∈ S then Sl.fz (.list es) else .ow es) = some (.fz d) := h
        rw [if_neg hi] at h
        cases h
    | fz e =>
      cases h
      exact .inl rfl
    | no => cases h
theorem frz_len {S : List Nat} : (frz S ρ).length = ρ.length := by
  unfold frz
  simp
theorem vw_some {S : List Nat} {i : Nat} {d : D} (h : (vw S ρ)[i]? = some (some d)) : ρ[i]? = some (.fz d) ∨ ∃ ds, ρ[i]? = some (.ow ds) ∧ i ∈ S ∧ d = .list ds := by
  unfold vw at h
  rw [List.getElem?_mapIdx] at h
  cases q : ρ[i]? with
  | none => rw [q] at h; cases h
  | some s =>
    rw [q] at h
    cases s with
    | ow es =>
      by_cases hi : i ∈ S
      · have h : some (if i ∈ S then some (PyData.list es) else none) = some (some d) := h
        rw [if_pos hi] at h
        cases h
        exact .inr ⟨es, rfl, hi, rfl⟩
      · have h : some (if i ∈ S then some (PyData.list es) else none) = some (some d) := h
        rw [if_neg hi] at h
        cases h
    | fz e =>
      cases h
      exact .inl rfl
    | no => cases h
theorem vw_len {S : List Nat} : (vw S ρ).length = ρ.length := by
  unfold vw
  simp
/-- what runs with the slots of S in sight, the rest of the owned lists hidden -/
theorem RepS.split (r : RepS G K B H σ ρ ad L) (S : List Nat) : ∃ L', Owns H L' ∧ RepE G K (hid H L') σ (vw S ρ) ∧ Ex G.T B (hid H L') ∧ ∀ H2, Ex G.T (hid H L') H2 → (∀ a ∈ L', H2 a = none) →
    RepS G K B (unh H L' H2) σ (frz S ρ) ad L' ∧ RepS G K B (unh H L' H2) σ ρ ad L ∧ hid (unh H L' H2) L' = H2 := by
  let M := L.filter fun a => decide (a ∈ ownS S ρ ad)
  let L' := L.filter fun a => decide (a ∉ ownS S ρ ad)
  have hL' : ∀ a, a ∈ L' ↔ a ∈ L ∧ a ∉ ownS S ρ ad := fun a => by
    show a ∈ L.filter _ ↔ _
    rw [List.mem_filter, decide_eq_true_eq]
  have hM : ∀ a, a ∈ M ↔ a ∈ L ∧ a ∈ ownS S ρ ad := fun a => by
    show a ∈ L.filter _ ↔ _
    rw [List.mem_filter, decide_eq_true_eq]
  have sub : ∀ a ∈ L', a ∈ L := fun a ha => ((hL' a).mp ha).1
  have all : ∀ a, a ∈ L ↔ a ∈ L' ∨ a ∈ M := fun a => by
    rw [hL', hM]
    by_cases h : a ∈ ownS S ρ ad <;> simp [h]
  have ow' : Owns H L' := fun a ha => r.owns a (sub a ha)
  have s1 : Sub (hid H L) (hid H L') := fun a o e => by
    obtain ⟨h1, h2⟩ := hid_some e
    rw [hid_out fun z => h2 (sub a z)]
    exact h1
  have inM : ∀ {i : Nat} {ds : List D}, ρ[i]? = some (.ow ds) → i ∈ S → ad i ∈ M := fun {i ds} e hi => (hM _).mpr ⟨r.mem i ds e, mem_ownS.mpr ⟨i, hi, ds, e, rfl⟩⟩
  have inL' : ∀ {i : Nat} {ds : List D}, ρ[i]? = some (.ow ds) → i ∉ S → ad i ∈ L' := fun {i ds} e hi => (hL' _).mpr ⟨r.mem i ds e, fun z => by
    obtain ⟨j, hj, es, e2, e3⟩ := mem_ownS.mp z
    have := r.inj i j ds es e e2 e3
    exact hi (this ▸ hj)⟩
  have notL' : ∀ {i : Nat} {ds : List D}, ρ[i]? = some (.ow ds) → i ∈ S → ad i ∉ L' := fun {i ds} e hi z => ((hL' _).mp z).2 ((hM _).mp (inM e hi)).2
  refine ⟨L', ow', ⟨(s1.ex (T := G.T)).tabs r.tabs, fun i d h => ?_, by rw [vw_len]; exact r.len⟩, r.ex.trans s1.ex, fun H2 e2 hn => ?_⟩
  · rcases vw_some h with h4 | ⟨ds, h4, hi, rfl⟩
    · obtain ⟨v, h1, h2⟩ := r.fz i d h4
      exact ⟨v, h1, (s1.ex (T := G.T)).rp h2⟩
    · obtain ⟨h1, vs, h2, h3⟩ := r.lst i ds h4
      refine ⟨_, h1, .lst (.inl ?_) ((s1.ex (T := G.T)).rps h3)⟩
      rw [hid_out (notL' h4 hi)]
      exact h2
  · have hh : hid (unh H L' H2) L' = H2 := hid_unh hn
    have e02 : Ex G.T (hid H L) H2 := (s1.ex).trans e2
    have atM : ∀ {a : Addr} {vs : List V}, a ∈ M → H a = some (.lst vs) → H2 a = some (.lst vs) := fun {a vs} ha e => by
      refine e2.lst ?_
      rw [hid_out fun z => ((hL' a).mp z).2 ((hM a).mp ha).2]
      exact e
    have owM : Owns H2 M := fun a ha => by
      obtain ⟨vs, e⟩ := r.owns a ((hM a).mp ha).1
      exact ⟨vs, atM ha e⟩
    have h3 : hid (unh H L' H2) L = hid H2 M := by
      rw [← hid_hid (H := unh H L' H2) sub M all, hh]
    have e03 : Ex G.T (hid H L) (hid (unh H L' H2) L) := by
      rw [h3, ← hid_hid (H := H) sub M all]
      exact ex_hid2 e2 owM
    refine ⟨⟨fun i ds h => ?_, fun a ha => ?_, fun i ds h => ?_, fun i j ds es h h' e => r.inj i j ds es (frz_ow.mp h).1 (frz_ow.mp h').1 e, fun i d h => ?_, by rw [frz_len]; exact r.len, by rw [hh]; exact r.ex.trans e02, by rw [hh]; exact e02.tabs r.tabs⟩,
      ⟨r.mem, r.own, fun i ds h => ?_, r.inj, fun i d h => ?_, r.len, r.ex.trans e03, e03.tabs r.tabs⟩, hh⟩
    · obtain ⟨h1, h2⟩ := frz_ow.mp h
      exact inL' h1 h2
    · obtain ⟨i, ds, h, rfl⟩ := r.own a (sub a ha)
      exact ⟨i, ds, frz_ow.mpr ⟨h, fun hi => notL' h hi ha⟩, rfl⟩
    · obtain ⟨h1, h2⟩ := frz_ow.mp h
      obtain ⟨q1, vs, q2, q3⟩ := r.lst i ds h1
      refine ⟨q1, vs, by rw [unh_in (inL' h1 h2)]; exact q2, ?_⟩
      rw [hh]
      exact e02.rps q3
    · rcases frz_fz h with h4 | ⟨ds, h4, hi, rfl⟩
      · obtain ⟨v, h1, h2⟩ := r.fz i d h4
        exact ⟨v, h1, by rw [hh]; exact e02.rp h2⟩
      · obtain ⟨h1, vs, h2, h3⟩ := r.lst i ds h4
        refine ⟨_, h1, ?_⟩
        rw [hh]
        exact .lst (.inl (atM (inM h4 hi) h2)) (e02.rps h3)
    · obtain ⟨q1, vs, q2, q3⟩ := r.lst i ds h
      refine ⟨q1, vs, ?_, e03.rps q3⟩
      rcases (all _).mp (r.mem i ds h) with z | z
      · rw [unh_in z]
        exact q2
      · rw [unh_out fun y => ((hL' _).mp y).2 ((hM _).mp z).2]
        exact atM z q2
    · obtain ⟨v, h1, h2⟩ := r.fz i d h
      exact ⟨v, h1, e03.rp h2⟩

/-! ### slots are stored -/
theorem RepS.set' (r : RepS G K B H σ ρ ad L) {i : Nat} {v : V} {d : D} (h : Rp K (hid H L) v d) : ∃ L', RepS G K B H (σ.set i (some v)) (ρ.set i (.fz d)) ad L' ∧ Sub (hid H L) (hid H L') := by
  have dec : ∀ a, a ∈ L.filter (fun a => match (ρ[i]? : Option Sl) with | some (Sl.ow _) => decide (a ≠ ad i) | _ => true) ↔ a ∈ L ∧ ∀ ds, ρ[i]? = some (.ow ds) → a ≠ ad i := fun a => by
    rw [List.mem_filter]
    split
    · rename_i ds h
      rw [h, decide_eq_true_eq]
      exact ⟨fun ⟨h1, h2⟩ => ⟨h1, fun _ _ => h2⟩, fun ⟨h1, h2⟩ => ⟨h1, h2 ds rfl⟩⟩
    · rename_i h
      exact ⟨fun ⟨h1, _⟩ => ⟨h1, fun ds e => (h ds e).elim⟩, fun ⟨h1, _⟩ => ⟨h1, rfl⟩⟩
  generalize L.filter (fun a => match (ρ[i]? : Option Sl) with | some (Sl.ow _) => decide (a ≠ ad i) | _ => true) = L2 at dec
  have s1 : Sub (hid H L) (hid H L2) := fun a o e => by
    obtain ⟨h1, h2⟩ := hid_some e
    rw [hid_out fun z => h2 ((dec a).mp z).1]
    exact h1
  have at_ : ∀ {j : Nat} {ds : List D}, (ρ.set i (.fz d))[j]? = some (.ow ds) → ρ[j]? = some (.ow ds) ∧ i ≠ j := fun {j ds} e => by
    by_cases hij : i = j
    · subst hij
      by_cases hl : i < ρ.length
      · rw [List.getElem?_set_self hl] at e
        cases e
      · rw [List.getElem?_eq_none (by rw [List.length_set]; omega)] at e
        cases e
    · rw [List.getElem?_set_ne hij] at e
      exact ⟨e, hij⟩
  refine ⟨L2, ⟨fun j ds e => ?_, fun a ha => ?_, fun j ds e => ?_, fun j k ds es e e' q => r.inj j k ds es (at_ e).1 (at_ e').1 q, fun j e hj => ?_, by rw [List.length_set, List.length_set]; exact r.len, r.ex.trans s1.ex, (s1.ex (T := G.T)).tabs r.tabs⟩, s1⟩
  · obtain ⟨h1, h2⟩ := at_ e
    exact (dec _).mpr ⟨r.mem j ds h1, fun es e2 q => h2 (r.inj i j es ds e2 h1 q.symm)⟩
  · obtain ⟨h1, h2⟩ := (dec a).mp ha
    obtain ⟨j, ds, e, rfl⟩ := r.own a h1
    have hij : i ≠ j := fun z => by
      subst z
      exact h2 ds e rfl
    exact ⟨j, ds, by rw [List.getElem?_set_ne hij]; exact e, rfl⟩
  · obtain ⟨h1, h2⟩ := at_ e
    obtain ⟨q1, vs, q2, q3⟩ := r.lst j ds h1
    exact ⟨by rw [List.getElem?_set_ne h2]; exact q1, vs, q2, (s1.ex (T := G.T)).rps q3⟩
  · by_cases hij : i = j
    · subst hij
      have hl : i < ρ.length := by
        have := (List.getElem?_eq_some_iff.mp hj).1
        rwa [List.length_set] at this
      rw [List.getElem?_set_self hl] at hj
      cases hj
      exact ⟨v, by rw [List.getElem?_set_self (by rw [r.len]; exact hl)], (s1.ex (T := G.T)).rp h⟩
    · rw [List.getElem?_set_ne hij] at hj
      obtain ⟨w, h1, h2⟩ := r.fz j e hj
      exact ⟨w, by rw [List.getElem?_set_ne hij]; exact h1, (s1.ex (T := G.T)).rp h2⟩
theorem RepS.set (r : RepS G K B H σ ρ ad L) {i : Nat} {v : V} {d : D} (h : Rp K (hid H L) v d) : ∃ L', RepS G K B H (σ.set i (some v)) (ρ.set i (.fz d)) ad L' := by
  obtain ⟨L', q, _⟩ := r.set' (i := i) h
  exact ⟨L', q⟩
end
end DL
set_option Elab.async false
set_option linter.all false
set_option maxRecDepth 100000
set_option maxHeartbeats 4000000
/-! DL7: the rules for statements, defs. -/
namespace DL
open PySem PySem.Spec PyProof.Rows L2 RZ

def tX (G : Gd) (E : XK) (K : PySem.W.Frag) (S : List Nat) (f : DE → R D) : TE := fun σ H Q => ∃ B ρ ad L, RepS G K B H σ ρ ad L ∧ match f (vw S ρ) with
  | .ok d => ∀ v H' L2, RepS G K B H' σ (th S (flatD d) ρ) ad L2 → Rp K (hid H' L2) v d → Q v H'
  | .err c => ∀ H', Ex G.T B H' → E (.ref (G.cl c)) none H'
  | .bad => False
def tXA (G : Gd) (E : XK) (K : PySem.W.Frag) (S : List Nat) (f : DE → R (List D)) : TA := fun σ H Q => ∃ B ρ ad L, RepS G K B H σ ρ ad L ∧ match f (vw S ρ) with
  | .ok ds => ∀ vs H' L2, RepS G K B H' σ (th S (ds.all flatD) ρ) ad L2 → RpAll K (hid H' L2) vs ds → Q vs H'
  | .err c => ∀ H', Ex G.T B H' → E (.ref (G.cl c)) none H'
  | .bad => False
def tXT (G : Gd) (E : XK) (K : PySem.W.Frag) (S : List Nat) (f : DE → R Bool) : TT := fun σ H Q => ∃ B ρ ad L, RepS G K B H σ ρ ad L ∧ match f (vw S ρ) with
  | .ok b => ∀ H' L2, RepS G K B H' σ ρ ad L2 → Q b H'
  | .err c => ∀ H', Ex G.T B H' → E (.ref (G.cl c)) none H'
  | .bad => False
def tXI (G : Gd) (E : XK) (K : PySem.W.Frag) (S : List Nat) (f : DE → R (List D)) : TI := fun σ H Q => ∃ B ρ ad L, RepS G K B H σ ρ ad L ∧ match f (vw S ρ) with
  | .ok items => ∀ J H' L2, RepS G K B H' σ (frz S ρ) ad L2 → WalkD G.T K J (hid H' L2) items → Q J H'
  | .err c => ∀ H', Ex G.T B H' → E (.ref (G.cl c)) none H'
  | .bad => False
section
variable {K : PySem.W.Frag} {H : Hp}
theorem rp_flat {H' : Hp} {v : V} {d : D} (h : Rp K H v d) (f : flatD d = true) : Rp K H' v d := by
  cases h with
  | non => exact .non
  | bl b => exact .bl b
  | int i => exact .int i
  | str z => exact .str z
  | lst a b => cases f
  | tup a b => cases f
  | dic a b c => cases f
  | fn x => cases f
theorem rps_flat {H' : Hp} : ∀ {vs : List V} {ds : List D}, RpAll K H vs ds → ds.all flatD = true → RpAll K H' vs ds
  | _, _, .nil, _ => .nil
  | _, _, .cons h1 h2, f => by
    rw [List.all_cons, Bool.and_eq_true] at f
    exact .cons (rp_flat h1 f.1) (rps_flat h2 f.2)
variable {G : Gd} {E : XK} {X : Cx} {e tg : Expr} {es : List Expr}
theorem px {f : DE → R D} (h : PD G E X e f) (S : List Nat) : PE X e (tX G E X.K S f) := by
  refine pe_imp (pe_hide h) ?_
  rintro σ H Q ⟨B, ρ, ad, L, r, k⟩
  obtain ⟨L', ow, re, eB, after⟩ := r.split S
  refine ⟨L', ow, vw S ρ, re, ?_⟩
  cases hf : f (vw S ρ) with
  | bad => rw [hf] at k; exact k
  | err c =>
    rw [hf] at k
    exact fun H' e' => k H' (eB.trans e')
  | ok d =>
    rw [hf] at k
    intro v H2 e2 rv hn
    obtain ⟨a1, a2, a3⟩ := after H2 e2 hn
    cases fl : flatD d with
    | true =>
      refine k v _ L (by unfold th; rw [fl, if_pos rfl]; exact a2) (rp_flat rv fl)
    | false =>
      refine k v _ L' (by unfold th; rw [fl, if_neg Bool.false_ne_true]; exact a1) (by rw [a3]; exact rv)
theorem pxA {f : DE → R (List D)} (h : PDA G E X es f) (S : List Nat) : PA X es (tXA G E X.K S f) := by
  refine pa_imp (pa_hide h) ?_
  rintro σ H Q ⟨B, ρ, ad, L, r, k⟩
  obtain ⟨L', ow, re, eB, after⟩ := r.split S
  refine ⟨L', ow, vw S ρ, re, ?_⟩
  cases hf : f (vw S ρ) with
  | bad => rw [hf] at k; exact k
  | err c =>
    rw [hf] at k
    exact fun H' e' => k H' (eB.trans e')
  | ok d =>
    rw [hf] at k
    intro v H2 e2 rv hn
    obtain ⟨a1, a2, a3⟩ := after H2 e2 hn
    cases fl : d.all flatD with
    | true =>
      refine k v _ L (by unfold th; rw [fl, if_pos rfl]; exact a2) (rps_flat rv fl)
    | false =>
      refine k v _ L' (by unfold th; rw [fl, if_neg Bool.false_ne_true]; exact a1) (by rw [a3]; exact rv)
theorem pxT {f : DE → R Bool} (h : PDT G E X e f) (S : List Nat) : PT X e (tXT G E X.K S f) := by
  refine pt_imp (pt_hide h) ?_
  rintro σ H Q ⟨B, ρ, ad, L, r, k⟩
  obtain ⟨L', ow, re, eB, after⟩ := r.split S
  refine ⟨L', ow, vw S ρ, re, ?_⟩
  cases hf : f (vw S ρ) with
  | bad => rw [hf] at k; exact k
  | err c =>
    rw [hf] at k
    exact fun H' e' => k H' (eB.trans e')
  | ok b =>
    rw [hf] at k
    intro v H2 e2 rv hn
    obtain ⟨a1, a2, a3⟩ := after H2 e2 hn
    have rv : v = b := rv
    subst rv
    exact k _ L a2
theorem pxI {f : DE → R (List D)} (h : PDI G E X tg e f) (S : List Nat) : PI X tg e (tXI G E X.K S f) := by
  refine pi_imp (pi_hide h) ?_
  rintro σ H Q ⟨B, ρ, ad, L, r, k⟩
  obtain ⟨L', ow, re, eB, after⟩ := r.split S
  refine ⟨L', ow, vw S ρ, re, ?_⟩
  cases hf : f (vw S ρ) with
  | bad => rw [hf] at k; exact k
  | err c =>
    rw [hf] at k
    exact fun H' e' => k H' (eB.trans e')
  | ok items =>
    rw [hf] at k
    intro J H2 e2 w hn
    obtain ⟨a1, a2, a3⟩ := after H2 e2 hn
    exact k J _ L' a1 (by rw [a3]; exact w)
end

/-! ### statements -/
def OutS (G : Gd) (E : XK) (K : PySem.W.Frag) (B : Hp) (r : R Fl) (Dn : Ends) : Prop := match r with
  | .ok (.nx ρ) => ∀ σ H ad L, RepS G K B H σ ρ ad L → Dn.nx σ H
  | .ok (.rt d) => ∀ v H, Ex G.T B H → Rp K H v d → Dn.rt v H
  | .ok (.ro ds) => ∀ a vs H, Ex G.T B (hid H [a]) → H a = some (.lst vs) → RpAll K (hid H [a]) vs ds → Dn.rt (.ref a) H
  | .ok (.bk ρ) => ∀ σ H ad L, RepS G K B H σ ρ ad L → Dn.bk σ H
  | .ok (.ct ρ) => ∀ σ H ad L, RepS G K B H σ ρ ad L → Dn.ct σ H
  | .err c => ∀ H, Ex G.T B H → E (.ref (G.cl c)) none H
  | .bad => False
def tS (G : Gd) (E : XK) (K : PySem.W.Frag) (g : SB) : TS := fun Dn σ H => ∃ B ρ ad L, RepS G K B H σ ρ ad L ∧ OutS G E K B (g ρ) Dn
def PSD (G : Gd) (E : XK) (X : Cx) (st : Stmt) (g : SB) : Prop := PS X st (tS G E X.K g)
def PSsD (G : Gd) (E : XK) (X : Cx) (st : List Stmt) (g : SB) : Prop := PSs X st (tS G E X.K g)
section
variable {G : Gd} {E : XK} {K : PySem.W.Frag} {B B' : Hp} {r : R Fl} {Dn : Ends}
theorem OutS.base (h : OutS G E K B r Dn) (e : Ex G.T B B') : OutS G E K B' r Dn := by
  cases r with
  | bad => exact h
  | err c => exact fun H e' => h H (e.trans e')
  | ok fl =>
    cases fl with
    | nx ρ => exact fun σ H ad L q => h σ H ad L (q.base e)
    | rt d => exact fun v H e' q => h v H (e.trans e') q
    | ro ds => exact fun a vs H e' => h a vs H (e.trans e')
    | bk ρ => exact fun σ H ad L q => h σ H ad L (q.base e)
    | ct ρ => exact fun σ H ad L q => h σ H ad L (q.base e)
end
def sNext : SB := fun ρ => .ok (.nx ρ)
def sSeq (g h : SB) : SB := fun ρ => (g ρ).bind fun fl => match fl with
  | .nx ρ => h ρ
  | fl => .ok fl
def sAsg (i : Nat) (S : List Nat) (f : DE → R D) : SB := fun ρ => (f (vw S ρ)).bind fun d => .ok (.nx ((th S (flatD d) ρ).set i (.fz d)))
def sOwn (i : Nat) (S : List Nat) (f : DE → R (List D)) : SB := fun ρ => (f (vw S ρ)).bind fun ds => .ok (.nx ((th S (ds.all flatD) ρ).set i (.ow ds)))
def sExpr (S : List Nat) (f : DE → R D) : SB := fun ρ => (f (vw S ρ)).bind fun d => .ok (.nx (th S (flatD d) ρ))
def sRet (S : List Nat) (f : DE → R D) : SB := fun ρ => (f (vw S ρ)).bind fun d => .ok (.rt d)
def sRetN : SB := fun _ => .ok (.rt .none)
def sIf (S : List Nat) (c : DE → R Bool) (g h : SB) : SB := fun ρ => (c (vw S ρ)).bind fun b => if b = true then g ρ else h ρ
def sErr (c : Exn) : SB := fun _ => .err c
def sBrk : SB := fun ρ => .ok (.bk ρ)
def sCnt : SB := fun ρ => .ok (.ct ρ)
/-- x.append(e), x.extend(e) of an owned list -/
def sApp (i : Nat) (S : List Nat) (f : DE → R D) : SB := fun ρ => match (ρ[i]? : Option Sl) with
  | some (.ow ds) => (f (vw S ρ)).bind fun d => if ds.length < 100000 then .ok (.nx ((th S (flatD d) ρ).set i (.ow (ds ++ [d])))) else .bad
  | _ => .bad
def sExt (i : Nat) (S : List Nat) (f : DE → R D) : SB := fun ρ => match (ρ[i]? : Option Sl) with
  | some (.ow ds) => (f (vw S ρ)).bind fun d => match d with
    | .list es => if ds.length + es.length ≤ 100000 then .ok (.nx ((th S false ρ).set i (.ow (ds ++ es)))) else .bad
    | _ => .bad
  | _ => .bad
def TP.bindS : TP → D → SE → R SE
  | .nm i, d, ρ => .ok (ρ.set i (.fz d))
  | .pr a b, d, ρ => match two d with
    | some (x, y) => (a.bindS x ρ).bind fun ρ => b.bindS y ρ
    | none => .bad
  | .tr a b c, d, ρ => match three d with
    | some (x, y, z) => (a.bindS x ρ).bind fun ρ => (b.bindS y ρ).bind fun ρ => c.bindS z ρ
    | none => .bad
/-- a, b = e -/
def sTgt (p : TP) (S : List Nat) (f : DE → R D) : SB := fun ρ => (f (vw S ρ)).bind fun d => (p.bindS d (th S (flatD d) ρ)).bind fun ρ => .ok (.nx ρ)
def sPar (i j : Nat) (S : List Nat) (f : DE → R (List D)) : SB := fun ρ => (f (vw S ρ)).bind fun l => match l with
  | [d, e] => .ok (.nx (((th S (l.all flatD) ρ).set i (.fz d)).set j (.fz e)))
  | _ => .bad
def forL (p : TP) (g : SB) : List D → SB
  | [], ρ => .ok (.nx ρ)
  | d :: r, ρ => (p.bindS d ρ).bind fun ρ => (g ρ).bind fun fl => match fl with
    | .nx ρ => forL p g r ρ
    | .ct ρ => forL p g r ρ
    | .bk ρ => .ok (.nx ρ)
    | .rt d => .ok (.rt d)
    | .ro d => .ok (.ro d)
def sFor (S : List Nat) (fi : DE → R (List D)) (p : TP) (g : SB) : SB := fun ρ => (fi (vw S ρ)).bind fun items => forL p g items (frz S ρ)
def whileL (S : List Nat) (c : DE → R Bool) (g : SB) : Nat → SB
  | 0, _ => .bad
  | n + 1, ρ => (c (vw S ρ)).bind fun b => if b = true then (g ρ).bind fun fl => match fl with
    | .nx ρ => whileL S c g n ρ
    | .ct ρ => whileL S c g n ρ
    | .bk ρ => .ok (.nx ρ)
    | .rt d => .ok (.rt d)
    | .ro d => .ok (.ro d) else .ok (.nx ρ)

section
variable {G : Gd} {K : PySem.W.Frag} {B H H' : Hp} {σ : L2.St} {ρ : SE} {ad : Nat → Addr} {L : List Addr}
theorem bindS_g : ∀ (p : TP) (d : D) (σ : L2.St) (ρ ρ' : SE) (L : List Addr) (v : V) (Q : L2.St → Hp → Prop), RepS G K B H σ ρ ad L → Rp K (hid H L) v d → p.bindS d ρ = .ok ρ' →
    (∀ σ' L', RepS G K B H σ' ρ' ad L' → Sub (hid H L) (hid H L') → Q σ' H) → p.g K v σ H Q
  | .nm i, d, σ, ρ, ρ', L, v, Q, h, r, e, k => by
    cases e
    obtain ⟨L', q⟩ := h.set (i := i) r
    refine k _ L' q fun a o e => ?_
    obtain ⟨e1, e2⟩ := hid_some e
    rw [hid_out fun z => ?_]
    · exact e1
    · obtain ⟨j, ds, q1, q2⟩ := q.own a z
      have q3 : ρ[j]? = some (.ow ds) := by
        by_cases hij : i = j
        · subst hij
          by_cases hl : i < ρ.length
          · rw [List.getElem?_set_self hl] at q1
            cases q1
          · rw [List.getElem?_eq_none (by rw [List.length_set]; omega)] at q1
            cases q1
        · rw [List.getElem?_set_ne hij] at q1
          exact q1
      exact e2 (q2 ▸ h.mem j ds q3)
  | .pr a b, d, σ, ρ, ρ', L, v, Q, h, r, e, k => by
    unfold TP.bindS at e
    split at e
    · rename_i x y he
      have q := two_eq he
      subst q
      cases r with
      | tup a1 b1 =>
        cases b1 with
        | cons r1 b2 =>
          cases b2 with
          | cons r2 b3 =>
            cases b3
            obtain ⟨ρ1, e1, e⟩ := bind_ok e
            refine ⟨_, _, rfl, sqT_ext (LamX.ExtN.of hid_sub) a1, rfl, _, _, rfl, bindS_g a x σ ρ ρ1 L _ _ h r1 e1 fun σ1 L1 g1 s1 => ?_⟩
            refine ⟨_, _, rfl, bindS_g b y σ1 ρ1 ρ' L1 _ _ g1 ((s1.ex (T := G.T)).rp r2) e fun σ2 L2 g2 s2 => ⟨rfl, k σ2 L2 g2 fun a o q => s2 a o (s1 a o q)⟩⟩
    · cases e
  | .tr a b c, d, σ, ρ, ρ', L, v, Q, h, r, e, k => by
    unfold TP.bindS at e
    split at e
    · rename_i x y z he
      have q := three_eq he
      subst q
      cases r with
      | tup a1 b1 =>
        cases b1 with
        | cons r1 b2 =>
          cases b2 with
          | cons r2 b3 =>
            cases b3 with
            | cons r3 b4 =>
              cases b4
              obtain ⟨ρ1, e1, e⟩ := bind_ok e
              obtain ⟨ρ2, e2, e⟩ := bind_ok e
              refine ⟨_, _, rfl, sqT_ext (LamX.ExtN.of hid_sub) a1, rfl, _, _, rfl, bindS_g a x σ ρ ρ1 L _ _ h r1 e1 fun σ1 L1 g1 s1 => ?_⟩
              refine ⟨_, _, rfl, bindS_g b y σ1 ρ1 ρ2 L1 _ _ g1 ((s1.ex (T := G.T)).rp r2) e2 fun σ2 L2 g2 s2 => ?_⟩
              refine ⟨_, _, rfl, bindS_g c z σ2 ρ2 ρ' L2 _ _ g2 ((s2.ex (T := G.T)).rp ((s1.ex (T := G.T)).rp r3)) e fun σ3 L3 g3 s3 => ⟨rfl, k σ3 L3 g3 fun a o q => s3 a o (s2 a o (s1 a o q))⟩⟩
    · cases e
/-- a new list in slot i -/
theorem RepS.newL (r : RepS G K B H σ ρ ad L) {i : Nat} {p : Addr} {vs : List V} {ds : List D} (hp : H p = none) (h : RpAll K (hid H L) vs ds) :
    ∃ ad' L', RepS G K B (upd H p (.lst vs)) (σ.set i (some (.ref p))) (ρ.set i (.ow ds)) ad' L' := by
  -- the slot's old list, if it was owned, is let go
  obtain ⟨L1, r1⟩ := r.set (i := i) (v := .non) (d := .none) .non
  have s1 : Sub (hid H L) (hid H L1) := fun a o e => by
    obtain ⟨e1, e2⟩ := hid_some e
    rw [hid_out fun z => ?_]
    · exact e1
    · obtain ⟨j, es, q1, q2⟩ := r1.own a z
      have q3 : ρ[j]? = some (.ow es) := by
        by_cases hij : i = j
        · subst hij
          by_cases hl : i < ρ.length
          · rw [List.getElem?_set_self hl] at q1
            cases q1
          · rw [List.getElem?_eq_none (by rw [List.length_set]; omega)] at q1
            cases q1
        · rw [List.getElem?_set_ne hij] at q1
          exact q1
      exact e2 (q2 ▸ r.mem j es q3)
  by_cases hl : i < ρ.length
  · have np : p ∉ L1 := owns_none r1.owns hp
    have hh : hid (upd H p (.lst vs)) (p :: L1) = hid H L1 := by
      funext a
      by_cases ha : a = p
      · subst ha
        rw [hid_in (by simp), hid_out np, hp]
      · by_cases hb : a ∈ L1
        · rw [hid_in (by simp [hb]), hid_in hb]
        · rw [hid_out (by simp [ha, hb]), hid_out hb, upd_ne ha]
    have old : ∀ {j : Nat} {es : List D}, (ρ.set i (.ow ds))[j]? = some (.ow es) → i ≠ j → (ρ.set i (.fz .none))[j]? = some (.ow es) := fun {j es} e hij => by
      rw [List.getElem?_set_ne hij] at e ⊢
      exact e
    have back : ∀ {j : Nat} {es : List D}, (ρ.set i (.fz .none))[j]? = some (.ow es) → i ≠ j ∧ (ρ.set i (.ow ds))[j]? = some (.ow es) := fun {j es} e => by
      by_cases hij : i = j
      · subst hij
        rw [List.getElem?_set_self hl] at e
        cases e
      · rw [List.getElem?_set_ne hij] at e ⊢
        exact ⟨hij, e⟩
    refine ⟨fun j => if j = i then p else ad j, p :: L1, fun j es e => ?_, fun a ha => ?_, fun j es e => ?_, fun j k es fs e e' q => ?_, fun j d e => ?_, by rw [List.length_set, List.length_set]; exact r.len, by rw [hh]; exact r1.ex, by rw [hh]; exact r1.tabs⟩
    · by_cases hij : i = j
      · rw [if_pos hij.symm]
        exact List.mem_cons_self
      · rw [if_neg fun z => hij z.symm]
        exact List.mem_cons_of_mem _ (r1.mem j es (old e hij))
    · rcases List.mem_cons.mp ha with rfl | ha
      · exact ⟨i, ds, by rw [List.getElem?_set_self hl], by rw [if_pos rfl]⟩
      · obtain ⟨j, es, e, rfl⟩ := r1.own a ha
        obtain ⟨hij, e2⟩ := back e
        exact ⟨j, es, e2, by rw [if_neg fun z => hij z.symm]⟩
    · by_cases hij : i = j
      · subst hij
        rw [List.getElem?_set_self hl] at e
        cases e
        rw [if_pos rfl]
        refine ⟨by rw [List.getElem?_set_self (by rw [r.len]; exact hl)], vs, upd_same, ?_⟩
        rw [hh]
        exact (s1.ex (T := G.T)).rps h
      · rw [if_neg fun z => hij z.symm]
        obtain ⟨q1, ws, q2, q3⟩ := r1.lst j es (old e hij)
        rw [List.getElem?_set_ne hij] at q1
        refine ⟨by rw [List.getElem?_set_ne hij]; exact q1, ws, ?_, by rw [hh]; exact q3⟩
        rw [upd_ne (ne_of_none q2 hp)]
        exact q2
    · by_cases hij : i = j
      · by_cases hik : i = k
        · exact hij.symm.trans hik
        · rw [if_pos hij.symm, if_neg fun z => hik z.symm] at q
          exact absurd (q ▸ r1.mem k fs (old e' hik)) np
      · by_cases hik : i = k
        · rw [if_neg (fun z => hij z.symm), if_pos hik.symm] at q
          exact absurd (q ▸ r1.mem j es (old e hij)) np
        · rw [if_neg (fun z => hij z.symm), if_neg fun z => hik z.symm] at q
          exact r1.inj j k es fs (old e hij) (old e' hik) q
    · by_cases hij : i = j
      · subst hij
        rw [List.getElem?_set_self hl] at e
        cases e
      · rw [List.getElem?_set_ne hij] at e
        obtain ⟨w, q1, q2⟩ := r1.fz j d (by rw [List.getElem?_set_ne hij]; exact e)
        rw [List.getElem?_set_ne hij] at q1
        exact ⟨w, by rw [List.getElem?_set_ne hij]; exact q1, by rw [hh]; exact q2⟩
  · have e1 : ρ.set i (.ow ds) = ρ := List.set_eq_of_length_le (by omega)
    have e2 : σ.set i (some (.ref p)) = σ := List.set_eq_of_length_le (by rw [r.len]; omega)
    rw [e1, e2]
    have np : p ∉ L := owns_none r.owns hp
    have hn : hid H L p = none := by
      rw [hid_out np]
      exact hp
    exact ⟨ad, L, r.step (by rw [hid_upd np]; exact Ex.new hn) fun a ha => upd_ne fun z => np (z ▸ ha)⟩
/-- an owned list is changed -/
theorem RepS.put (r : RepS G K B H σ ρ ad L) {i : Nat} {vs : List V} {ds es : List D} (hi : ρ[i]? = some (.ow ds)) (h : RpAll K (hid H L) vs es) : RepS G K B (upd H (ad i) (.lst vs)) σ (ρ.set i (.ow es)) ad L := by
  have hm := r.mem i ds hi
  have hl : i < ρ.length := (List.getElem?_eq_some_iff.mp hi).1
  have hh : hid (upd H (ad i) (.lst vs)) L = hid H L := hid_updI hm
  have back : ∀ {j : Nat} {fs : List D}, (ρ.set i (.ow es))[j]? = some (.ow fs) → ∃ gs, ρ[j]? = some (.ow gs) := fun {j fs} e => by
    by_cases hij : i = j
    · subst hij
      exact ⟨ds, hi⟩
    · rw [List.getElem?_set_ne hij] at e
      exact ⟨fs, e⟩
  refine ⟨fun j fs e => ?_, fun a ha => ?_, fun j fs e => ?_, fun j k fs gs e e' q => ?_, fun j d e => ?_, by rw [List.length_set]; exact r.len, by rw [hh]; exact r.ex, by rw [hh]; exact r.tabs⟩
  · obtain ⟨gs, q⟩ := back e
    exact r.mem j gs q
  · obtain ⟨j, gs, q, rfl⟩ := r.own a ha
    by_cases hij : i = j
    · subst hij
      exact ⟨i, es, by rw [List.getElem?_set_self hl], rfl⟩
    · exact ⟨j, gs, by rw [List.getElem?_set_ne hij]; exact q, rfl⟩
  · by_cases hij : i = j
    · subst hij
      rw [List.getElem?_set_self hl] at e
      cases e
      exact ⟨(r.lst i ds hi).1, vs, upd_same, by rw [hh]; exact h⟩
    · rw [List.getElem?_set_ne hij] at e
      obtain ⟨q1, ws, q2, q3⟩ := r.lst j fs e
      refine ⟨q1, ws, ?_, by rw [hh]; exact q3⟩
      rw [upd_ne fun z => hij (r.inj i j ds fs hi e z.symm)]
      exact q2
  · obtain ⟨f1, q1⟩ := back e
    obtain ⟨f2, q2⟩ := back e'
    exact r.inj j k f1 f2 q1 q2 q
  · have hij : i ≠ j := fun z => by
      subst z
      rw [List.getElem?_set_self hl] at e
      cases e
    rw [List.getElem?_set_ne hij] at e
    obtain ⟨w, q1, q2⟩ := r.fz j d e
    exact ⟨w, q1, by rw [hh]; exact q2⟩
end
end DL
set_option Elab.async false
set_option linter.all false
set_option maxRecDepth 100000
set_option maxHeartbeats 4000000
/-! DL8: the statements' rules proved, the promise of a def. -/
namespace DL
open PySem PySem.Spec PyProof.Rows L2 RZ

section
variable {G : Gd} {E : XK} {X : Cx} {e tg iter : Expr} {es : List Expr} {st : Stmt} {body rest : List Stmt} {f : DE → R D} {fs : DE → R (List D)} {c : DE → R Bool} {g h : SB} {pos : Pos}
theorem ps_imp {t t' : TS} (h : PS X st t) (k : ∀ D σ H, t' D σ H → t D σ H) : PS X st t' := ⟨fun pins s σ H D I q => h.run pins s σ H D I (k D σ H q)⟩
theorem pss_imp {t t' : TS} (h : PSs X body t) (k : ∀ D σ H, t' D σ H → t D σ H) : PSs X body t' := ⟨fun pins s σ H D I q => h.run pins s σ H D I (k D σ H q)⟩
theorem pssd_nil : PSsD G E X [] sNext := by
  refine pss_imp pss_nil ?_
  rintro Dn σ H ⟨B, ρ, ad, L, r, k⟩
  exact k σ H ad L r
theorem pssd_cons (h1 : PSD G E X st g) (h2 : PSsD G E X rest h) : PSsD G E X (st :: rest) (sSeq g h) := by
  refine pss_imp (pss_cons h1 h2) ?_
  rintro Dn σ H ⟨B, ρ, ad, L, r, k⟩
  refine ⟨B, ρ, ad, L, r, ?_⟩
  unfold sSeq at k
  cases hg : g ρ with
  | bad => rw [hg] at k; exact k
  | err c => rw [hg] at k; exact k
  | ok fl =>
    rw [hg] at k
    cases fl with
    | nx ρ' => exact fun σ' H' ad' L' r' => ⟨B, ρ', ad', L', r', k⟩
    | rt d => exact k
    | bk ρ' => exact k
    | ct ρ' => exact k
    | ro ds => exact k
theorem pssd_one (h1 : PSD G E X st g) : PSsD G E X [st] g := pss_one h1
theorem psd_pass : PSD G E X (.Pass pos) sNext := by
  refine ps_imp ps_pass ?_
  rintro Dn σ H ⟨B, ρ, ad, L, r, k⟩
  exact k σ H ad L r
theorem psd_break : PSD G E X (.Break pos) sBrk := by
  refine ps_imp ps_break ?_
  rintro Dn σ H ⟨B, ρ, ad, L, r, k⟩
  exact k σ H ad L r
theorem psd_continue : PSD G E X (.Continue pos) sCnt := by
  refine ps_imp ps_continue ?_
  rintro Dn σ H ⟨B, ρ, ad, L, r, k⟩
  exact k σ H ad L r
/-- x = e -/
theorem psd_asg (S : List Nat) {i : Nat} {x : Str} {pos' : Pos} (hN : X.N.Nodup) (hi : X.N[i]? = some x) (hx : Loc X.env.scope x) (he : PD G E X e f) (hs : swapsWith e (some (.Name x pos')) pos.line X.env = pure false := by rfl)
    (hf : X.fn x = true ∨ X.env.scope.names.lookup x = some .local := by first | exact .inl rfl | exact .inr rfl | assumption) : PSD G E X (.Assign [.Name x pos'] e pos) (sAsg i S f) := by
  refine ps_imp (ps_set hN hi hx (px he S) hs hf) ?_
  rintro Dn σ H ⟨B, ρ, ad, L, r, k⟩
  refine ⟨B, ρ, ad, L, r, ?_⟩
  unfold sAsg at k
  cases hq : f (vw S ρ) with
  | bad => rw [hq] at k; exact k
  | err c => rw [hq] at k; exact k
  | ok d =>
    rw [hq] at k
    intro v H' L2 r2 hv
    obtain ⟨L3, r3⟩ := r2.set (i := i) hv
    exact k _ H' ad L3 r3
/-- x = [..]: a list of the def's own -/
theorem psd_own (S : List Nat) {i : Nat} {x : Str} {pos' lp : Pos} (hN : X.N.Nodup) (hi : X.N[i]? = some x) (hx : Loc X.env.scope x) (ha : PDA G E X es fs) {n : Nat} (hn : ∀ ρ l, fs ρ = .ok l → l.length = n) (hz : n ≤ 100000 := by decide) (hs : swapsWith (.List es lp) (some (.Name x pos')) pos.line X.env = pure false := by rfl)
    (hf : X.fn x = true ∨ X.env.scope.names.lookup x = some .local := by first | exact .inl rfl | exact .inr rfl | assumption) : PSD G E X (.Assign [.Name x pos'] (.List es lp) pos) (sOwn i S fs) := by
  refine ps_imp (ps_set hN hi hx (pe_lst (pxA ha S)) hs hf) ?_
  rintro Dn σ H ⟨B, ρ, ad, L, r, k⟩
  refine ⟨B, ρ, ad, L, r, ?_⟩
  unfold sOwn at k
  cases hq : fs (vw S ρ) with
  | bad => rw [hq] at k; exact k
  | err c => rw [hq] at k; exact k
  | ok ds =>
    rw [hq] at k
    intro vs H' L2 r2 hv
    refine ⟨small100k (by rw [RpAll.len hv, hn _ _ hq]; exact hz), fun p hp => ?_⟩
    obtain ⟨ad', L3, r3⟩ := r2.newL (i := i) hp hv
    exact k _ _ ad' L3 r3
theorem psd_expr (S : List Nat) (he : PD G E X e f) (hs : swapsWith e none pos.line X.env = pure false := by rfl) : PSD G E X (.Expr e pos) (sExpr S f) := by
  refine ps_imp (ps_expr (px he S) hs) ?_
  rintro Dn σ H ⟨B, ρ, ad, L, r, k⟩
  refine ⟨B, ρ, ad, L, r, ?_⟩
  unfold sExpr at k
  cases hq : f (vw S ρ) with
  | bad => rw [hq] at k; exact k
  | err c => rw [hq] at k; exact k
  | ok d =>
    rw [hq] at k
    intro v H' L2 r2 hv
    exact k _ H' ad L2 r2
theorem psd_ret (S : List Nat) (he : PD G E X e f) : PSD G E X (.Return (some e) pos) (sRet S f) := by
  refine ps_imp (ps_ret (px he S)) ?_
  rintro Dn σ H ⟨B, ρ, ad, L, r, k⟩
  refine ⟨B, ρ, ad, L, r, ?_⟩
  unfold sRet at k
  cases hq : f (vw S ρ) with
  | bad => rw [hq] at k; exact k
  | err c => rw [hq] at k; exact k
  | ok d =>
    rw [hq] at k
    intro v H' L2 r2 hv
    exact k v H' r2.exH ((hid_sub.ex (T := G.T)).rp hv)
theorem psd_retN : PSD G E X (.Return none pos) sRetN := by
  refine ps_imp ps_retN ?_
  rintro Dn σ H ⟨B, ρ, ad, L, r, k⟩
  exact k .non H r.exH .non
theorem psd_if (S : List Nat) {t : Expr} {a b : List Stmt} (ht : PDT G E X t c) (ha : PSsD G E X a g) (hb : PSsD G E X b h) : PSD G E X (.If t a b pos) (sIf S c g h) := by
  refine ps_imp (ps_if (pxT ht S) ha hb) ?_
  rintro Dn σ H ⟨B, ρ, ad, L, r, k⟩
  refine ⟨B, ρ, ad, L, r, ?_⟩
  unfold sIf at k
  cases hq : c (vw S ρ) with
  | bad => rw [hq] at k; exact k
  | err c => rw [hq] at k; exact k
  | ok b' =>
    rw [hq] at k
    intro H' L2 r2
    cases b' with
    | true =>
      rw [if_pos rfl]
      exact ⟨B, ρ, ad, L2, r2, k⟩
    | false =>
      rw [if_neg Bool.false_ne_true]
      exact ⟨B, ρ, ad, L2, r2, k⟩
/-- raise C('..') -/
theorem psd_raise {x : Exn} (hc : X.calm = true) (tk : L2N.Takes X (fun cls d _ H => E cls d H)) (hm : L2N.PMk X e (fun _ H Q => Q (.ref (G.cl x)) none H)) : PSD G E X (.Raise (some e) none pos) (sErr x) := by
  refine ps_imp (L2N.ps_raise hc tk hm) ?_
  rintro Dn σ H ⟨B, ρ, ad, L, r, k⟩
  exact k H r.exH
theorem th_ow {S : List Nat} {b : Bool} {ρ : SE} {i : Nat} {ds : List D} (h : ρ[i]? = some (.ow ds)) (hi : i ∉ S) : (th S b ρ)[i]? = some (.ow ds) := by
  unfold th
  cases b with
  | true => rw [if_pos rfl]; exact h
  | false =>
    rw [if_neg Bool.false_ne_true]
    exact frz_ow.mpr ⟨h, hi⟩
/-- x.append(e) -/
theorem psd_app (S : List Nat) {i : Nat} {x : Str} {p1 apos cpos : Pos} (hv : PE X (.Name x p1) (tVar i)) (ha : PD G E X e f) (hS : i ∉ S := by decide)
    (hbase : attributeBase (.Name x p1) "append" X.env (eval (.Name x p1) X.env) = eval (.Name x p1) X.env := by rfl)
    (hfew : ((backTo cpos (starEach [e] X.env)).all (fun x => !x.1) && (backToKw cpos (keywordEach [] X.env)).all (fun x => x.1.isSome) && decide ([e].length + ([] : List Keyword).length + (if ([] : List Keyword).isEmpty then 0 else 1) < 30)) = true := by rfl)
    (hline : (apos.endLine == cpos.line) = true := by rfl) (hs : starEach [e] X.env = (false, eval e X.env) :: starEach [] X.env := by rfl) (hplain : (backTo cpos (starEach [] X.env)).any (·.1) = false := by rfl)
    (hsw : swapsWith (.Call (.Attribute (.Name x p1) "append" apos) [e] [] cpos) none pos.line X.env = pure false := by rfl) : PSD G E X (.Expr (.Call (.Attribute (.Name x p1) "append" apos) [e] [] cpos) pos) (sApp i S f) := by
  refine ps_imp (ps_expr (pe_bm PySem.F.plainAttrs_list PySem.F.slot_list_append PySem.F.type_list_append mt_append hv (pa_cons (px ha S) pa_nil hs) hbase hfew hline hs hplain) hsw) ?_
  rintro Dn σ H ⟨B, ρ, ad, L, r, k⟩
  unfold sApp at k
  split at k
  · rename_i ds hi
    obtain ⟨h1, vs, h2, h3⟩ := r.lst i ds hi
    refine ⟨_, h1, .inl ⟨rfl, vs, .inl (.inl h2)⟩, B, ρ, ad, L, r, ?_⟩
    cases hq : f (vw S ρ) with
    | bad => rw [hq] at k; exact k
    | err c => rw [hq] at k; exact k
    | ok d =>
      rw [hq] at k
      have k : OutS G E X.K B (if ds.length < 100000 then R.ok (Fl.nx ((th S (flatD d) ρ).set i (.ow (ds ++ [d])))) else .bad) Dn := k
      by_cases hz : ds.length < 100000
      · rw [if_pos hz] at k
        intro v H' L2 r2 hv
        have hi2 := th_ow (b := flatD d) hi hS
        obtain ⟨_, ws, q2, q3⟩ := r2.lst i ds hi2
        exact ⟨ad i, ws, v, rfl, rfl, q2, small100kl (by rw [RpAll.len q3]; exact hz), k _ _ ad L2 (r2.put hi2 (RpAll.app q3 (.cons hv .nil)))⟩
      · rw [if_neg hz] at k
        exact k.elim
  · exact k.elim
def rExtL : V → List V → Hp → VK → Prop := fun x vs H Q => ∃ l b xs zs, x = .ref l ∧ vs = [.ref b] ∧ H l = some (.lst xs) ∧ Rd H b (.lst zs) ∧ xs.length + zs.length ≤ sizeLine ∧ Q .non (upd H l (.lst (xs ++ zs)))
theorem mt_extL : MtM X "list.extend" rExtL := by
  intro pins s σ H x vs v us Q I rx rv h
  obtain ⟨l, b, xs, zs, rfl, rfl, hl, hb, hz, q⟩ := h
  cases rx
  obtain ⟨u, rfl, ru⟩ := rv.one
  cases ru
  obtain ⟨i1, n1, z1, r1, l1, e1⟩ := Rd.its I (.inl hl)
  obtain ⟨i2, n2, z2, r2, l2, e2⟩ := Rd.its I hb
  have hsz : i1.toArray.size + i2.toArray.size ≤ sizeLine := by simp only [List.size_toArray]; omega
  have big : ¬ (!i1.toArray.isEmpty && Builtin.List.listTooLong (i1.toArray.size + i2.toArray.size)) = true := by
    rw [notLongL hsz, Bool.and_false]; decide
  refine call_meets F.slot_list_extend ⟨_, e1, rfl⟩ F.entry_list_extend (F.args_list_extend_2 _ _) (AutoSeq1.list_extend_list_list_0 l i1.toArray n1 b i2.toArray n2 big (by simp only [List.size_toArray]; omega) (by omega)) ⟨e1, e2, ?_⟩
  exact ⟨.non, _, I.lset (its' := i1 ++ i2) hl e1 (by simp) (r1.append r2) (by simp only [List.length_append]; omega), rfl, q⟩
/-- x.extend(e) -/
theorem psd_ext (S : List Nat) {i : Nat} {x : Str} {p1 apos cpos : Pos} (hv : PE X (.Name x p1) (tVar i)) (ha : PD G E X e f) (hS : i ∉ S := by decide)
    (hbase : attributeBase (.Name x p1) "extend" X.env (eval (.Name x p1) X.env) = eval (.Name x p1) X.env := by rfl)
    (hfew : ((backTo cpos (starEach [e] X.env)).all (fun x => !x.1) && (backToKw cpos (keywordEach [] X.env)).all (fun x => x.1.isSome) && decide ([e].length + ([] : List Keyword).length + (if ([] : List Keyword).isEmpty then 0 else 1) < 30)) = true := by rfl)
    (hline : (apos.endLine == cpos.line) = true := by rfl) (hs : starEach [e] X.env = (false, eval e X.env) :: starEach [] X.env := by rfl) (hplain : (backTo cpos (starEach [] X.env)).any (·.1) = false := by rfl)
    (hsw : swapsWith (.Call (.Attribute (.Name x p1) "extend" apos) [e] [] cpos) none pos.line X.env = pure false := by rfl) : PSD G E X (.Expr (.Call (.Attribute (.Name x p1) "extend" apos) [e] [] cpos) pos) (sExt i S f) := by
  refine ps_imp (ps_expr (pe_bm PySem.F.plainAttrs_list PySem.F.slot_list_extend PySem.F.type_list_extend mt_extL hv (pa_cons (px ha S) pa_nil hs) hbase hfew hline hs hplain) hsw) ?_
  rintro Dn σ H ⟨B, ρ, ad, L, r, k⟩
  unfold sExt at k
  split at k
  · rename_i ds hi
    obtain ⟨h1, vs, h2, h3⟩ := r.lst i ds hi
    refine ⟨_, h1, .inl ⟨rfl, vs, .inl (.inl h2)⟩, B, ρ, ad, L, r, ?_⟩
    cases hq : f (vw S ρ) with
    | bad => rw [hq] at k; exact k
    | err c => rw [hq] at k; exact k
    | ok d =>
      rw [hq] at k
      cases d with
      | list es =>
        have k : OutS G E X.K B (if ds.length + es.length ≤ 100000 then R.ok (Fl.nx ((th S false ρ).set i (.ow (ds ++ es)))) else .bad) Dn := k
        by_cases hz : ds.length + es.length ≤ 100000
        · rw [if_pos hz] at k
          intro v H' L2 r2 hv
          have hi2 := th_ow (b := false) hi hS
          obtain ⟨_, ws, q2, q3⟩ := r2.lst i ds hi2
          cases hv with
          | lst a b =>
            have a2 : Rd H' _ (.lst _) := rd_ext (LamX.ExtN.of hid_sub) a
            exact ⟨ad i, _, ws, _, rfl, rfl, q2, a2, small100k (by rw [RpAll.len q3, RpAll.len b]; exact hz), k _ _ ad L2 (r2.put hi2 (RpAll.app q3 b))⟩
        · rw [if_neg hz] at k
          exact k.elim
      | _ => exact k.elim
  · exact k.elim
theorem bindS_err : ∀ (p : TP) (d : D) (ρ : SE) (c : Exn), p.bindS d ρ ≠ .err c := by
  intro p
  induction p with
  | nm i => intro d ρ c e; cases e
  | pr a b iha ihb =>
    intro d ρ c e
    unfold TP.bindS at e
    split at e
    · cases h1 : a.bindS _ ρ with
      | ok ρ1 => rw [h1] at e; exact ihb _ _ _ e
      | err c' => exact iha _ _ _ h1
      | bad => rw [h1] at e; cases e
    · cases e
  | tr a b d' iha ihb ihc =>
    intro d ρ c e
    unfold TP.bindS at e
    split at e
    · cases h1 : a.bindS _ ρ with
      | ok ρ1 =>
        rw [h1] at e
        simp only [R.ok_bind] at e
        cases h2 : b.bindS _ ρ1 with
        | ok ρ2 => rw [h2] at e; exact ihc _ _ _ e
        | err c' => exact ihb _ _ _ h2
        | bad => rw [h2] at e; cases e
      | err c' => exact iha _ _ _ h1
      | bad => rw [h1] at e; cases e
    · cases e
/-- a, b = e -/
theorem psd_tgt (S : List Nat) {p : TP} (he : PD G E X e f) (hg : PGT X tg p) (hs : swapsWithSole [tg] e pos.line X.env = pure false := by rfl) (hw : swappedStores [tg] e X.env = pure none := by rfl) (h1 : (assignEach [tg] X.env).map (·.2) = [assign tg X.env] := by rfl) :
    PSD G E X (.Assign [tg] e pos) (sTgt p S f) := by
  refine ps_imp (ps_asg (px he S) hg hs hw h1) ?_
  rintro Dn σ H ⟨B, ρ, ad, L, r, k⟩
  refine ⟨B, ρ, ad, L, r, ?_⟩
  unfold sTgt at k
  cases hq : f (vw S ρ) with
  | bad => rw [hq] at k; exact k
  | err c => rw [hq] at k; exact k
  | ok d =>
    rw [hq] at k
    intro v H' L2 r2 hv
    have k : OutS G E X.K B ((p.bindS d (th S (flatD d) ρ)).bind fun ρ => .ok (.nx ρ)) Dn := k
    cases hb : p.bindS d (th S (flatD d) ρ) with
    | bad => rw [hb] at k; exact k.elim
    | err c => exact absurd hb (bindS_err p d _ c)
    | ok ρ' =>
      rw [hb] at k
      exact bindS_g p d σ _ ρ' L2 v _ r2 hv hb fun σ' L' r' _ => k σ' H' ad L' r'
theorem psd_par (S : List Nat) {i j : Nat} {x y : Str} {a b : Expr} {px1 py pt : Pos} {kt k2 : Nat} {pt2 : Pos} (hc : X.calm = true) (hN : X.N.Nodup) (hi : X.N[i]? = some x) (hj : X.N[j]? = some y) (hij : i ≠ j)
    (hx : X.env.scope.names.lookup x = some .local) (hy : X.env.scope.names.lookup y = some .local) (ha : PDA G E X [a, b] fs)
    (hw : swappedStores [.Tuple [.Name x px1, .Name y py] kt pt] (.Tuple [a, b] k2 pt2) X.env = pure (some [x, y]) := by rfl)
    (hs : swapsWithSole [.Tuple [.Name x px1, .Name y py] kt pt] (.Tuple [a, b] k2 pt2) pos.line X.env = pure false := by rfl) : PSD G E X (.Assign [.Tuple [.Name x px1, .Name y py] kt pt] (.Tuple [a, b] k2 pt2) pos) (sPar i j S fs) := by
  refine ps_imp (ps_par hc hN hi hj hij hx hy (pxA ha S) hw hs) ?_
  rintro Dn σ H ⟨B, ρ, ad, L, r, k⟩
  refine ⟨B, ρ, ad, L, r, ?_⟩
  unfold sPar at k
  cases hq : fs (vw S ρ) with
  | bad => rw [hq] at k; exact k
  | err c => rw [hq] at k; exact k
  | ok ds =>
    rw [hq] at k
    intro vs H' L2 r2 hv
    cases hv with
    | nil => exact k.elim
    | cons h1 h2 =>
      cases h2 with
      | nil => exact k.elim
      | cons h2 h3 =>
        cases h3 with
        | nil =>
          obtain ⟨L3, r3, s3⟩ := r2.set' (i := i) h1
          obtain ⟨L4, r4⟩ := r3.set (i := j) ((s3.ex (T := G.T)).rp h2)
          exact ⟨_, _, rfl, k _ H' ad L4 r4⟩
        | cons h4 h5 => exact k.elim
theorem psd_for (S : List Nat) {fi : DE → R (List D)} {p : TP} (hp : PassesOwn (model X.prog X.w) X.A X.env X.xe) (hc : X.calm = true) (hi : PDI G E X tg iter fi) (hg : PGT X tg p) (hb : PSsD G E X body g)
    (hs : ∀ x, foldedSetIterable iter X.env x = pure x := by intro _; rfl) : PSD G E X (.For tg iter body [] pos) (sFor S fi p g) := by
  refine ps_imp (ps_for hp hc (pxI hi S) hg hb hs) ?_
  rintro Dn σ H ⟨B, ρ, ad, L, r, k⟩
  refine ⟨B, ρ, ad, L, r, ?_⟩
  unfold sFor at k
  cases hq : fi (vw S ρ) with
  | bad => rw [hq] at k; exact k
  | err c => rw [hq] at k; exact k
  | ok items =>
    rw [hq] at k
    intro J H1 L1 r1 w
    have k : OutS G E X.K B (forL p g items (frz S ρ)) Dn := k
    generalize hB : hid H1 L1 = B1 at w
    have eB : Ex G.T B B1 := hB ▸ r1.ex
    have k1 : OutS G E X.K B1 (forL p g items (frz S ρ)) Dn := k.base eB
    have r1' : RepS G X.K B1 H1 σ (frz S ρ) ad L1 := ⟨r1.mem, r1.own, r1.lst, r1.inj, r1.fz, r1.len, hB ▸ Ex.refl _, r1.tabs⟩
    refine ⟨fun i m σ H => m = items.length - i ∧ i ≤ items.length ∧ ∃ ρ ad L, RepS G X.K B1 H σ ρ ad L ∧ OutS G E X.K B1 (forL p g (items.drop i) ρ) Dn, ⟨_, rfl, Nat.zero_le _, _, ad, L1, r1', k1⟩, ?_⟩
    rintro i m σ2 H2 ⟨rfl, hile, ρ2, ad2, L2, r2, k2⟩
    by_cases hlt : i < items.length
    · refine .inr ⟨w.go i H2 r2.exH hlt, fun σ' H' => ∃ ρ' ad' L', RepS G X.K B1 H' σ' ρ' ad' L' ∧ OutS G E X.K B1 (forL p g (items.drop (i + 1)) ρ') Dn,
        fun σ' H' ⟨ρ', ad', L', q1, q2⟩ => ⟨items.length - (i + 1), by omega, rfl, hlt, ρ', ad', L', q1, q2⟩, fun x H3 hy => ?_⟩
      obtain ⟨e3, same3, d, hd, rx⟩ := w.yld i H2 x H3 L2 r2.exH r2.owns (repS_none r2) hlt hy
      have r3 := r2.step e3 same3
      have hdrop : items.drop i = d :: items.drop (i + 1) := by
        rw [List.drop_eq_getElem_cons hlt]
        rw [List.getElem?_eq_getElem hlt] at hd
        rw [Option.some.inj hd]
      rw [hdrop] at k2
      unfold forL at k2
      cases hb : p.bindS d ρ2 with
      | bad => rw [hb] at k2; exact k2.elim
      | err c => exact absurd hb (bindS_err p d _ c)
      | ok ρ4 =>
        rw [hb] at k2
        simp only [R.ok_bind] at k2
        refine bindS_g p d σ2 ρ2 ρ4 L2 x _ r3 rx hb fun σ5 L5 r5 _ => ⟨B1, ρ4, ad2, L5, r5, ?_⟩
        cases hbd : g ρ4 with
        | bad => rw [hbd] at k2; exact k2.elim
        | err c => rw [hbd] at k2; exact k2
        | ok fl =>
          rw [hbd] at k2
          cases fl with
          | nx ρ6 => exact fun σ' H' ad' L' r' => ⟨ρ6, ad', L', r', k2⟩
          | ct ρ6 => exact fun σ' H' ad' L' r' => ⟨ρ6, ad', L', r', k2⟩
          | bk ρ6 => exact fun σ' H' ad' L' r' => k2 σ' H' ad' L' r'
          | rt d' => exact k2
          | ro d' => exact k2
    · have ei : i = items.length := by omega
      subst ei
      rw [List.drop_length] at k2
      exact .inl ⟨w.stop H2 r2.exH, k2 σ2 H2 ad2 L2 r2⟩
/-- while, of at most n turns -/
theorem psd_while (S : List Nat) (n : Nat) {t : Expr} (hp : PassesOwn (model X.prog X.w) X.A X.env X.xe) (ht : PDT G E X t c) (hb : PSsD G E X body g) : PSD G E X (.While t body [] pos) (whileL S c g n) := by
  refine ps_imp (ps_while hp (pxT ht S) hb) ?_
  rintro Dn σ H ⟨B, ρ, ad, L, r, k⟩
  refine ⟨fun m σ H => ∃ ρ ad L, RepS G X.K B H σ ρ ad L ∧ OutS G E X.K B (whileL S c g m ρ) Dn, ⟨n, ρ, ad, L, r, k⟩, ?_⟩
  rintro m σ2 H2 ⟨ρ2, ad2, L2, r2, k2⟩
  refine ⟨B, ρ2, ad2, L2, r2, ?_⟩
  cases m with
  | zero => exact k2.elim
  | succ m =>
    unfold whileL at k2
    cases hc : c (vw S ρ2) with
    | bad => rw [hc] at k2; exact k2
    | err x => rw [hc] at k2; exact k2
    | ok b =>
      rw [hc] at k2
      simp only [R.ok_bind] at k2
      intro H3 L3 r3
      cases b with
      | false =>
        rw [if_neg Bool.false_ne_true] at k2 ⊢
        exact k2 σ2 H3 ad2 L3 r3
      | true =>
        rw [if_pos rfl] at k2 ⊢
        refine ⟨fun σ' H' => ∃ ρ' ad' L', RepS G X.K B H' σ' ρ' ad' L' ∧ OutS G E X.K B (whileL S c g m ρ') Dn, fun σ' H' ⟨ρ', ad', L', q1, q2⟩ => ⟨m, Nat.lt_succ_self m, ρ', ad', L', q1, q2⟩, B, ρ2, ad2, L3, r3, ?_⟩
        cases hbd : g ρ2 with
        | bad => rw [hbd] at k2; exact k2.elim
        | err x => rw [hbd] at k2; exact k2
        | ok fl =>
          rw [hbd] at k2
          cases fl with
          | nx ρ6 => exact fun σ' H' ad' L' r' => ⟨ρ6, ad', L', r', k2⟩
          | ct ρ6 => exact fun σ' H' ad' L' r' => ⟨ρ6, ad', L', r', k2⟩
          | bk ρ6 => exact fun σ' H' ad' L' r' => k2 σ' H' ad' L' r'
          | rt d' => exact k2
          | ro d' => exact k2
end

/-! ### defs -/
def startD (n : Nat) (ds : List D) : SE := ds.map Sl.fz ++ List.replicate (n - ds.length) Sl.no
def runD (n : Nat) (g : SB) (ds : List D) : R D := (g (startD n ds)).bind fun fl => match fl with
  | .rt d => .ok d
  | .ro ds => .ok (.list ds)
  | .nx _ => .ok .none
  | _ => .bad
theorem start_rep {G : Gd} {K : PySem.W.Frag} {H : Hp} {N : List Str} {vs : List V} {ds : List D} (hl : vs.length ≤ N.length) (ht : LamX.Tabs G.T H) (h : RpAll K H vs ds) : RepS G K H H (L2.start N vs) (startD N.length ds) (fun _ => 0) [] := by
  have hn := RpAll.len h
  have hh : hid H [] = H := by
    funext a
    exact hid_out (by simp)
  have noOw : ∀ {i : Nat} {es : List D}, (startD N.length ds)[i]? ≠ some (.ow es) := fun {i es} e => by
    unfold startD at e
    by_cases hi : i < ds.length
    · rw [List.getElem?_append_left (by simpa using hi), List.getElem?_map] at e
      cases q : ds[i]? with
      | none => rw [q] at e; cases e
      | some d => rw [q] at e; cases e
    · rw [List.getElem?_append_right (by simpa using hi), List.getElem?_replicate] at e
      split at e <;> cases e
  refine ⟨fun i es e => (noOw e).elim, fun a ha => (nomatch ha), fun i es e => (noOw e).elim, fun i j es fs e => (noOw e).elim, fun i d e => ?_, ?_, by rw [hh]; exact Ex.refl H, by rw [hh]; exact ht⟩
  · rw [hh]
    unfold startD at e
    by_cases hi : i < ds.length
    · rw [List.getElem?_append_left (by simpa using hi), List.getElem?_map] at e
      cases q : ds[i]? with
      | none => rw [q] at e; cases e
      | some d' =>
        rw [q] at e
        cases e
        obtain ⟨v, h1, h2⟩ := RpAll.get h q
        refine ⟨v, ?_, h2⟩
        unfold L2.start
        rw [List.getElem?_append_left (by simp; omega), List.getElem?_map, h1]
        rfl
    · rw [List.getElem?_append_right (by simpa using hi), List.getElem?_replicate] at e
      split at e <;> cases e
  · unfold L2.start startD
    simp
    omega
section
variable {P : Program} {w : World} {K : PySem.W.Frag} {mg : Str → Option Value} {base : Heap} {G : Gd}
end
end DL
set_option Elab.async false
set_option linter.all false
set_option maxRecDepth 100000
set_option maxHeartbeats 4000000
/-! DL9: min, max, sorted, index, str, int by plain data; tables of the module; dicts written out. -/
namespace DL
open PySem PySem.Spec PyProof.Rows L2 RZ

section
variable {X : Cx} {K : PySem.W.Frag} {G : Gd} {E : XK} {pos : Pos} {a b e : Expr} {es : List Expr} {f g h : DE → R D} {fs : DE → R (List D)}

/-! ### str, int -/
theorem call_str_bl : CallR X (.type "str") (fun xs H Q => ∃ b, xs = [.bl b] ∧ Q (.str (if b then "True" else "False")) H) := by
  intro pins s σ H xs us Q I r h
  obtain ⟨b, rfl, q⟩ := h
  obtain ⟨u, rfl, ru⟩ := vals1 r
  cases ru
  exact PySem.P.str_of_bool ⟨.str _, H, I.tok _, ⟨_, rfl⟩, q⟩
def bStr : List D → R D
  | [.str z] => .ok (.str z)
  | [.bool b] => .ok (.str (if b then "True" else "False"))
  | [.int i] => if i.natAbs < 2 ^ 1900 then .ok (.str (toString i)) else .bad
  | _ => .bad
theorem log_small {n : Nat} (h : n < 2 ^ 1900) : n.log2 < 1920 := by
  by_cases h0 : n = 0
  · subst h0; decide
  · exact Nat.lt_trans ((Nat.log2_lt h0).mpr h) (by decide)
theorem ok_str : OkCall G E X.K (fun xs H Q => (∃ a, xs = [.str a] ∧ Q (.str a) H) ∨ ((∃ b, xs = [.bl b] ∧ Q (.str (if b then "True" else "False")) H) ∨ ∃ i, xs = [.int i] ∧ i.natAbs.log2 < 1920 ∧ Q (.str (toString i)) H)) bStr := by
  intro H xs ds Q bd hx ho
  unfold bStr at ho
  split at ho
  · cases hx with
    | cons h1 h2 =>
      cases h2; cases h1
      exact .inl ⟨_, rfl, ho _ H (Ex.refl H) (.str _)⟩
  · cases hx with
    | cons h1 h2 =>
      cases h2; cases h1
      exact .inr (.inl ⟨_, rfl, ho _ H (Ex.refl H) (.str _)⟩)
  · rename_i i
    by_cases hz : i.natAbs < 2 ^ 1900
    · rw [if_pos hz] at ho
      cases hx with
      | cons h1 h2 =>
        cases h2; cases h1
        exact .inr (.inr ⟨_, rfl, log_small hz, ho _ H (Ex.refl H) (.str _)⟩)
    · rw [if_neg hz] at ho
      exact ho.elim
  · exact ho.elim
theorem pd_strOf {p : Pos} (hg : Gl X "str") (hm : X.mg "str" = none) (ha : PDA G E X [e] fs) (he : starEach [e] X.env = [(false, eval e X.env)] := by rfl) : PD G E X (.Call (.Name "str" p) [e] [] pos) (eCall bStr fs) :=
  pd_callTy (SkE.call_str_str.or (call_str_bl.or call_str_int)) ok_str hg hm (by decide +kernel) ha (by decide) (by decide) he rfl
def bInt : List D → R D
  | [.int i] => .ok (.int i)
  | [.bool b] => .ok (.int (if b then 1 else 0))
  | [.str z] => (match PySem.intText? z with
    | some n => if z.length ≤ 640 then .ok (.int n) else .bad
    | none => .bad)
  | _ => .bad
theorem ok_int : OkCall G E X.K (fun xs H Q => ((∃ i, xs = [.int i] ∧ Q (.int i) H) ∨ ∃ k, xs = [.bl k] ∧ Q (.int (if k then 1 else 0)) H) ∨ ∃ a n, xs = [.str a] ∧ PySem.intText? a = some n ∧ a.length ≤ 640 ∧ Q (.int n) H) bInt := by
  intro H xs ds Q bd hx ho
  unfold bInt at ho
  split at ho
  · cases hx with
    | cons h1 h2 =>
      cases h2; cases h1
      exact .inl (.inl ⟨_, rfl, ho _ H (Ex.refl H) (.int _)⟩)
  · cases hx with
    | cons h1 h2 =>
      cases h2; cases h1
      exact .inl (.inr ⟨_, rfl, ho _ H (Ex.refl H) (.int _)⟩)
  · rename_i z
    cases hn : PySem.intText? z with
    | none =>
      simp only [hn] at ho
      exact ho.elim
    | some n =>
      simp only [hn] at ho
      by_cases hz : z.length ≤ 640
      · rw [if_pos hz] at ho
        cases hx with
        | cons h1 h2 =>
          cases h2; cases h1
          exact .inr ⟨_, n, rfl, hn, hz, ho _ H (Ex.refl H) (.int _)⟩
      · rw [if_neg hz] at ho
        exact ho.elim
  · exact ho.elim
theorem pd_intOf {p : Pos} (hg : Gl X "int") (hm : X.mg "int" = none) (ha : PDA G E X [e] fs) (he : starEach [e] X.env = [(false, eval e X.env)] := by rfl) : PD G E X (.Call (.Name "int" p) [e] [] pos) (eCall bInt fs) :=
  pd_callTy (call_int1.or call_int_str) ok_int hg hm (by decide +kernel) ha (by decide) (by decide) he rfl

/-! ### min, max of a list -/
def alikeB (ds : List D) : Bool := (ds.all fun x => ds.all fun y => PySem.W.alike x y) && ds.all fun x => !isNo x
theorem alikeB_all {ds : List D} (h : alikeB ds = true) : PySem.W.AlikeAll ds := by
  unfold alikeB at h
  rw [Bool.and_eq_true, List.all_eq_true, List.all_eq_true] at h
  refine ⟨fun x hx y hy => List.all_eq_true.mp (h.1 x hx) y hy, fun x hx e => ?_⟩
  have := h.2 x hx
  rw [e] at this
  cases this
def bMinL : List D → R D
  | [.list (x :: xs)] => if alikeB (x :: xs) = true ∧ SeqAt.shaped (.list (x :: xs)) = true then .ok (PySem.W.minD x xs) else .bad
  | _ => .bad
def bMaxL : List D → R D
  | [.list (x :: xs)] => if alikeB (x :: xs) = true ∧ SeqAt.shaped (.list (x :: xs)) = true then .ok (PySem.W.maxD x xs) else .bad
  | _ => .bad

theorem room_seq {A : Around} {ds : List D} (h : SeqAt.shaped (.list ds) = true) (hu : A.units + 66 < cLine) : A.units + 1 + PyData.depthAll ds < cLine := by
  have h1 := SeqAt.depth_of_shaped h
  have h2 : PyData.depth (.list ds) = PyData.depthAll ds + 1 := by simp [PyData.depth]
  omega
theorem lay_seq {ds : List D} (h : SeqAt.shaped (.list ds) = true) : PyData.canLayAll0 ds = true := by simpa [PyData.canLay0] using SeqAt.canLay_of_shaped h
theorem lay_at : ∀ {ds : List D} {i : Nat} {d : D}, PyData.canLayAll0 ds = true → ds[i]? = some d → d.canLay0 = true
  | [], i, d, _, e => by simp at e
  | x :: xs, 0, d, c, e => by
    have c' : x.canLay0 = true ∧ PyData.canLayAll0 xs = true := by simpa [PyData.canLayAll0] using c
    simp at e
    exact e ▸ c'.1
  | x :: xs, i + 1, d, c, e => by
    have c' : x.canLay0 = true ∧ PyData.canLayAll0 xs = true := by simpa [PyData.canLayAll0] using c
    exact lay_at c'.2 (by simpa using e)
theorem fold_mem {α : Type} (f : α → α → Bool) : ∀ (xs : List α) (x : α), xs.foldl (fun a y => if f y a then y else a) x ∈ x :: xs
  | [], x => by simp
  | y :: ys, x => by
    rw [List.foldl_cons]
    have h := fold_mem f ys (if f y x then y else x)
    rcases List.mem_cons.mp h with e | e
    · rw [e]
      split
      · simp
      · simp
    · simp [e]
def rMinM (op : PyData → List PyData → PyData) (K : PySem.W.Frag) : List V → Hp → VK → Prop := fun vs H Q => ∃ (p : Addr) (xs : List V) (x : D) (ds : List D), vs = [.ref p] ∧ Rd H p (.lst xs) ∧ RpAll K H xs (x :: ds) ∧ alikeB (x :: ds) = true ∧ SeqAt.shaped (.list (x :: ds)) = true ∧ ∀ v, Rp K H v (op x ds) → Q v H
theorem pick_rp {pins : List (Addr × Obj)} {σ : L2.St} {H : Hp} {s : Shared} {xs : List V} {its : List Value} {ds : List D} {i : Nat} {u : Value} {d : D} {h' : Heap} {bs : List Addr} (I : Inv X pins σ H s) (r : RpAll X.K H xs ds) (rv : Vals xs its) (al : alikeB ds = true) (cl : PyData.canLayAll0 ds = true)
    (hm : d ∈ ds) (hi : its[i]? = some u) (hr : Reads h' u d bs) (hk : ∀ b o, s.heap.get? b = some o → h'.get? b = some o) : ∃ v, RelV v u ∧ Rp X.K H v d := by
  have hl := rv.length
  obtain ⟨hil, _⟩ := List.getElem?_eq_some_iff.mp hi
  obtain ⟨v, hv⟩ : ∃ v, xs[i]? = some v := ⟨xs[i]'(by omega), List.getElem?_eq_getElem (by omega)⟩
  obtain ⟨u', hu', ru⟩ := rv.get hv
  rw [hi] at hu'
  cases hu'
  obtain ⟨d', hd', rd⟩ := RpAll.getV r hv
  obtain ⟨as, q⟩ := Dp.reads I d' v u (rp_dp d' v (lay_at cl hd') rd) ru
  have e : d' = d := PySem.W.alike_unique d' d u as bs ((alikeB_all al).1 d' (List.mem_of_getElem? hd') d hm) (PyProof.Rows.Reads.keeps hk q) hr
  exact ⟨v, ru, e ▸ rd⟩
theorem call_minM (hc : X.calm = true) (hu : X.A.units + 66 < cLine) : CallR X (.builtin "min") (rMinM PySem.W.minD X.K) := by
  intro pins s σ H vs us Q I r h
  obtain ⟨p, xs, x, ds, rfl, hs, ra, al, sh, q⟩ := h
  obtain ⟨its, rv, hl, hz⟩ := I.list (.inl hs)
  rw [Vals.ref1 r]
  obtain ⟨as, hrd⟩ := Dp.readsAll I (x :: ds) xs its (rp_dpAll (x :: ds) xs (lay_seq sh) ra) rv
  refine PySem.W.min_list_data (I.ok.hd hc) hl.isList (by simpa using hrd) (alikeB_all al) (room_seq sh hu) fun i u h' tk bs hi hr hk => ?_
  have hi' : its[i]? = some u := by simpa using hi
  obtain ⟨v, rv', rp⟩ := pick_rp I ra rv al (lay_seq sh) (fold_mem PySem.W.dataLt ds x) hi' hr hk
  exact ⟨v, H, I.kept (t' := tk) hk, rv', q v rp⟩
theorem call_maxM (hc : X.calm = true) (hu : X.A.units + 66 < cLine) : CallR X (.builtin "max") (rMinM PySem.W.maxD X.K) := by
  intro pins s σ H vs us Q I r h
  obtain ⟨p, xs, x, ds, rfl, hs, ra, al, sh, q⟩ := h
  obtain ⟨its, rv, hl, hz⟩ := I.list (.inl hs)
  rw [Vals.ref1 r]
  obtain ⟨as, hrd⟩ := Dp.readsAll I (x :: ds) xs its (rp_dpAll (x :: ds) xs (lay_seq sh) ra) rv
  refine PySem.W.max_list_data (I.ok.hd hc) hl.isList (by simpa using hrd) (alikeB_all al) (room_seq sh hu) fun i u h' tk bs hi hr hk => ?_
  have hi' : its[i]? = some u := by simpa using hi
  obtain ⟨v, rv', rp⟩ := pick_rp I ra rv al (lay_seq sh) (fold_mem (fun y a => PySem.W.dataLt a y) ds x) hi' hr hk
  exact ⟨v, H, I.kept (t' := tk) hk, rv', q v rp⟩
theorem ok_minM : OkCall G E X.K (rMinM PySem.W.minD X.K) bMinL := by
  intro H xs ds Q bd hx ho
  unfold bMinL at ho
  split at ho
  · rename_i x ds
    by_cases hm : alikeB (x :: ds) = true ∧ SeqAt.shaped (.list (x :: ds)) = true
    · rw [if_pos hm] at ho
      cases hx with
      | cons h1 h2 =>
        cases h2
        cases h1 with
        | lst a b => exact ⟨_, _, x, ds, rfl, a, b, hm.1, hm.2, fun v r => ho v H (Ex.refl H) r⟩
    · rw [if_neg hm] at ho
      exact ho.elim
  · exact ho.elim
theorem ok_maxM : OkCall G E X.K (rMinM PySem.W.maxD X.K) bMaxL := by
  intro H xs ds Q bd hx ho
  unfold bMaxL at ho
  split at ho
  · rename_i x ds
    by_cases hm : alikeB (x :: ds) = true ∧ SeqAt.shaped (.list (x :: ds)) = true
    · rw [if_pos hm] at ho
      cases hx with
      | cons h1 h2 =>
        cases h2
        cases h1 with
        | lst a b => exact ⟨_, _, x, ds, rfl, a, b, hm.1, hm.2, fun v r => ho v H (Ex.refl H) r⟩
    · rw [if_neg hm] at ho
      exact ho.elim
  · exact ho.elim
theorem pd_minL {p : Pos} (hc : X.calm = true) (hu : X.A.units + 66 < cLine) (hg : Gl X "min") (hm : X.mg "min" = none) (ha : PDA G E X [e] fs) (he : starEach [e] X.env = [(false, eval e X.env)] := by rfl) : PD G E X (.Call (.Name "min" p) [e] [] pos) (eCall bMinL fs) :=
  pd_callB (call_minM hc hu) ok_minM hg hm boot_min ha (by decide) (by decide) he rfl
theorem pd_maxL {p : Pos} (hc : X.calm = true) (hu : X.A.units + 66 < cLine) (hg : Gl X "max") (hm : X.mg "max" = none) (ha : PDA G E X [e] fs) (he : starEach [e] X.env = [(false, eval e X.env)] := by rfl) : PD G E X (.Call (.Name "max" p) [e] [] pos) (eCall bMaxL fs) :=
  pd_callB (call_maxM hc hu) ok_maxM hg hm boot_max ha (by decide) (by decide) he rfl

/-! ### sorted -/
def sortD (ds : List D) : List D := ds.mergeSort (PySem.W.dataLe false id)
def sortB (ds : List D) : Bool := (ds.all fun d => match d with
  | .tuple (_ :: _) => true
  | _ => false) || ds.all fun d => match d with
  | .none => false
  | .tuple _ => false
  | _ => true
theorem sortB_sound {ds : List D} (h : sortB ds = true) : PySem.W.Sortable ds := by
  unfold sortB at h
  rw [Bool.or_eq_true, List.all_eq_true, List.all_eq_true] at h
  rcases h with h | h
  · refine .inl fun d hd => ?_
    have q := h d hd
    split at q
    · exact ⟨_, _, rfl⟩
    · cases q
  · refine .inr fun d hd => ?_
    have q := h d hd
    split at q
    · cases q
    · cases q
    · rename_i h1 h2
      exact ⟨h1, h2⟩
def alikeAllB (ds : List D) : Bool := ds.all fun x => ds.all fun y => PySem.W.alike x y
theorem alikeAllB_sound {ds : List D} (h : alikeAllB ds = true) : PySem.W.AllAlike ds := by
  unfold alikeAllB at h
  rw [List.all_eq_true] at h
  exact fun x hx y hy => List.all_eq_true.mp (h x hx) y hy
theorem zip_fst {α β : Type} : ∀ {xs : List α} {ys : List β}, xs.length = ys.length → (xs.zip ys).map (fun p => p.1) = xs
  | [], [], _ => rfl
  | x :: xs, y :: ys, h => by
    rw [List.zip_cons_cons, List.map_cons, zip_fst (by simpa using h)]
  | [], _ :: _, h => by simp at h
  | _ :: _, [], h => by simp at h
theorem zip_snd {α β : Type} : ∀ {xs : List α} {ys : List β}, xs.length = ys.length → (xs.zip ys).map (fun p => p.2) = ys
  | [], [], _ => rfl
  | x :: xs, y :: ys, h => by
    rw [List.zip_cons_cons, List.map_cons, zip_snd (by simpa using h)]
  | [], _ :: _, h => by simp at h
  | _ :: _, [], h => by simp at h
theorem rp_zip {H : Hp} : ∀ {xs : List V} {ds : List D}, RpAll K H xs ds → ∀ p ∈ xs.zip ds, Rp K H p.1 p.2
  | _, _, .nil, p, h => by simp at h
  | _, _, .cons h1 h2, p, h => by
    rw [List.zip_cons_cons] at h
    rcases List.mem_cons.mp h with e | e
    · subst e
      exact h1
    · exact rp_zip h2 p e
theorem rp_unzip {H : Hp} : ∀ {ps : List (V × D)}, (∀ p ∈ ps, Rp K H p.1 p.2) → RpAll K H (ps.map fun p => p.1) (ps.map fun p => p.2)
  | [], _ => .nil
  | p :: ps, h => .cons (h p (by simp)) (rp_unzip fun q hq => h q (by simp [hq]))
theorem each_zip {xs : List V} {its : List Value} (rv : Vals xs its) : ∀ {ds : List D}, xs.length = ds.length → PySem.W.EachIs (fun (v : Value) (b : V × D) => RelV b.1 v) its (xs.zip ds) := by
  induction rv with
  | nil => intro ds h; exact .nil
  | cons r t ih =>
    intro ds h
    cases ds with
    | nil => simp at h
    | cons d ds => exact .cons r (ih (by simpa using h))
theorem each_vals : ∀ {out : List Value} {ps : List (V × D)}, PySem.W.EachIs (fun (v : Value) (b : V × D) => RelV b.1 v) out ps → Vals (ps.map fun p => p.1) out
  | _, _, .nil => .nil
  | _, _, .cons r t => .cons r (each_vals t)
theorem each_reads {h : Heap} : ∀ {xs : List V} {its : List Value} {ds : List D} {as : List Addr}, xs.length = ds.length → ReadsAll h its ds as → PySem.W.EachIs (fun (v : Value) (b : V × D) => ∃ as, Reads h v b.2 as) its (xs.zip ds)
  | [], _, [], _, _, .nil => .nil
  | x :: xs, _, d :: ds, _, e, .cons h1 h2 => .cons ⟨_, h1⟩ (each_reads (by simpa using e) h2)
  | [], _, _ :: _, _, e, _ => by simp at e
  | _ :: _, _, [], _, e, _ => by simp at e
theorem depth_mem : ∀ {ds : List D} {d : D}, d ∈ ds → d.depth ≤ PyData.depthAll ds
  | [], _, h => by simp at h
  | x :: xs, d, h => by
    rcases List.mem_cons.mp h with e | e
    · subst e
      simp only [PyData.depthAll]
      exact Nat.le_max_left _ _
    · have := depth_mem e
      simp only [PyData.depthAll]
      exact Nat.le_trans this (Nat.le_max_right _ _)
def rSortM (K : PySem.W.Frag) : List V → Hp → VK → Prop := fun vs H Q => ∃ (p : Addr) (xs : List V) (ds : List D), vs = [.ref p] ∧ Rd H p (.lst xs) ∧ RpAll K H xs ds ∧ alikeAllB ds = true ∧ sortB ds = true ∧ SeqAt.shaped (.list ds) = true ∧ ∀ ws l, H l = none → RpAll K H ws (sortD ds) → Q (.ref l) (upd H l (.lst ws))
theorem call_sortM (hu : X.A.units + 66 < cLine) : CallR X (.builtin "sorted") (rSortM X.K) := by
  intro pins s σ H vs us Q I r h
  obtain ⟨p, xs, ds, rfl, hs, ra, al, so, sh, q⟩ := h
  obtain ⟨its, rv, hl, hz⟩ := I.list (.inl hs)
  rw [Vals.ref1 r]
  have hn := RpAll.len ra
  have hsnd : (xs.zip ds).map (fun p => p.2) = ds := zip_snd hn
  obtain ⟨as, hrd⟩ := Dp.readsAll I ds xs its (rp_dpAll ds xs (lay_seq sh) ra) rv
  have hbl : (xs.zip ds).length = xs.length := by simp [hn]
  refine PySem.W.sorted_data (enc := fun (b : V × D) => b.2) hl.isList (each_zip rv hn) (each_reads hn hrd) (by rw [hsnd]; exact alikeAllB_sound al) (by rw [hsnd]; exact sortB_sound so) (by rw [hbl]; exact hz) (fun b hb => ?_) fun out hol eo => ?_
  · have h1 : b.2 ∈ ds := by
      rw [← hsnd]
      exact List.mem_map.mpr ⟨b, hb, rfl⟩
    have h2 := depth_mem h1
    have h3 := room_seq sh hu
    have h4 := SeqAt.depth_of_shaped sh
    have h5 : PyData.depth (.list ds) = PyData.depthAll ds + 1 := by simp [PyData.depth]
    omega
  · have hov := each_vals eo
    have hmem : ∀ p ∈ (xs.zip ds).mergeSort (PySem.W.dataLe false fun (b : V × D) => b.2), Rp X.K H p.1 p.2 := fun p hp => rp_zip ra p (List.mem_mergeSort.mp hp)
    have hds : ((xs.zip ds).mergeSort (PySem.W.dataLe false fun (b : V × D) => b.2)).map (fun p => p.2) = sortD ds := by
      have q := List.map_mergeSort (r := PySem.W.dataLe false fun (b : V × D) => b.2) (s := PySem.W.dataLe false id) (f := fun (p : V × D) => p.2) (l := xs.zip ds) (fun a _ b _ => rfl)
      rw [hsnd] at q
      exact q
    have hra := rp_unzip hmem
    rw [hds] at hra
    obtain ⟨ep, he'⟩ := PyProof.Rows.sortedAll_at s.heap its out.toArray
    have hlen : (((xs.zip ds).mergeSort (PySem.W.dataLe false fun (b : V × D) => b.2)).map fun p => p.1).length ≤ sizeLine := by
      rw [List.length_map, List.length_mergeSort, hbl]
      exact hz
    exact ⟨.ref _, upd H (s.heap.objs.size + 1) (.lst _), I.laid (t' := s.toks) (fun _ _ => PyProof.Rows.sortedAll_old) (Nat.le_succ _) ⟨hlen, out, ep, hov, he'⟩, rfl, q _ _ (I.hok.fresh (Nat.le_succ _)) hra⟩
def bSorted : List D → R D
  | [.list ds] => if alikeAllB ds = true ∧ sortB ds = true ∧ SeqAt.shaped (.list ds) = true then .ok (.list (sortD ds)) else .bad
  | _ => .bad
theorem ok_sorted : OkCall G E X.K (rSortM X.K) bSorted := by
  intro H xs ds Q bd hx ho
  unfold bSorted at ho
  split at ho
  · rename_i ds
    by_cases hm : alikeAllB ds = true ∧ sortB ds = true ∧ SeqAt.shaped (.list ds) = true
    · rw [if_pos hm] at ho
      cases hx with
      | cons h1 h2 =>
        cases h2
        cases h1 with
        | lst a b => exact ⟨_, _, ds, rfl, a, b, hm.1, hm.2.1, hm.2.2, fun ws l hl r => ho _ _ (Ex.new hl) (.lst (.inl upd_same) ((Ex.new (T := G.T) hl).rps r))⟩
    · rw [if_neg hm] at ho
      exact ho.elim
  · exact ho.elim
theorem pd_sorted {p : Pos} (hu : X.A.units + 66 < cLine) (hg : Gl X "sorted") (hm : X.mg "sorted" = none) (ha : PDA G E X [e] fs) (he : starEach [e] X.env = [(false, eval e X.env)] := by rfl) : PD G E X (.Call (.Name "sorted" p) [e] [] pos) (eCall bSorted fs) :=
  pd_callB (call_sortM hu) ok_sorted hg hm (by decide +kernel) ha (by decide) (by decide) he rfl

/-! ### l.index(x) -/
def dIndex (ds : List D) (d : D) : R D := if SeqAt.shaped (.list ds) = true ∧ SeqAt.shaped d = true then (match ds.findIdx? fun z => PyData.eqv z d with
  | some j => .ok (.int (j : Nat))
  | none => .bad) else .bad
def eIndex (f g : DE → R D) : DE → R D := fun ρ => (f ρ).bind fun a => match a with
  | .list ds => (g ρ).bind fun d => dIndex ds d
  | _ => .bad
theorem pd_index {apos cpos : Pos} (hu : X.A.units + 66 < cLine) (ho : PD G E X a f) (he : PD G E X e g)
    (hbase : attributeBase a "index" X.env (eval a X.env) = eval a X.env := by rfl)
    (hfew : ((backTo cpos (starEach [e] X.env)).all (fun x => !x.1) && (backToKw cpos (keywordEach [] X.env)).all (fun x => x.1.isSome) && decide ([e].length + ([] : List Keyword).length + (if ([] : List Keyword).isEmpty then 0 else 1) < 30)) = true := by rfl)
    (hline : (apos.endLine == cpos.line) = true := by rfl) (hs : starEach [e] X.env = (false, eval e X.env) :: starEach [] X.env := by rfl) (hplain : (backTo cpos (starEach [] X.env)).any (·.1) = false := by rfl) :
    PD G E X (.Call (.Attribute a "index" apos) [e] [] cpos) (eIndex f g) := by
  refine pe_imp (pe_bm PySem.F.plainAttrs_list PySem.F.slot_list_index PySem.F.type_list_index (mt_indexD (by omega)) ho (pa_cons he pa_nil hs) hbase hfew hline hs hplain) ?_
  intro σ H Q h
  obtain ⟨ρ, hr, ho⟩ := h
  refine ⟨ρ, hr, (Out.bind (rel := Rp X.K) ho).mono ?_⟩
  rintro x H1 e1 - ⟨d1, hd1, _, hx, ho⟩
  cases d1 with
  | list ds =>
    cases hx with
    | lst a1 b1 =>
      refine ⟨.inl ⟨rfl, _, .inl a1⟩, ρ, hr.ext e1, (Out.bind (rel := Rp X.K) ho).mono ?_⟩
      rintro y H2 e2 - ⟨d2, hd2, _, hy, ho⟩
      unfold dIndex at ho
      by_cases hm : SeqAt.shaped (.list ds) = true ∧ SeqAt.shaped d2 = true
      · rw [if_pos hm] at ho
        cases hj : ds.findIdx? fun z => PyData.eqv z d2 with
        | none => rw [hj] at ho; exact ho.elim
        | some j =>
          rw [hj] at ho
          rw [List.findIdx?_eq_some_iff_getElem] at hj
          obtain ⟨hlt, h1, h2⟩ := hj
          refine ⟨_, y, d2, ds, j, ds[j], rfl, rfl, (e2.rp (.lst a1 b1)).dp hm.1, hy.dp hm.2, hm.1, hm.2, List.getElem?_eq_getElem hlt, h1, fun m z hmj hz => ?_, ho _ H2 (Ex.refl H2) (.int _)⟩
          have hml : m < ds.length := by omega
          rw [List.getElem?_eq_getElem hml] at hz
          rw [← Option.some.inj hz]
          have := h2 m hmj
          simpa using this
      · rw [if_neg hm] at ho
        exact ho.elim
  | _ => exact ho.elim
end
end DL
set_option Elab.async false
set_option linter.all false
set_option maxRecDepth 100000
set_option maxHeartbeats 4000000
/-! DL10: constants of the module, its tables, dicts written out, lists that are handed out. -/
namespace DL
open PySem PySem.Spec PyProof.Rows L2 RZ

/-! ### constants of the module, read as data -/
mutual
def kdB (K : PySem.W.Frag) : D → Value → Bool
  | .none, u => (match u with
    | .none => true
    | _ => false)
  | .bool b, u => (match u with
    | .bool c => b == c
    | _ => false)
  | .int i, u => (match u with
    | .int j _ => decide (i = j)
    | _ => false)
  | .str x, u => (match u with
    | .str y _ => decide (x = y)
    | _ => false)
  | .tuple ds, u => (match u with
    | .ref a => (match K.lookup a with
      | some ⟨.type c, _, .seq its _, _⟩ => decide (c = "tuple") && (decide (its.size ≤ 100000) && kdAll K ds its.toList)
      | _ => false)
    | _ => false)
  | .list _, _ => false
  | .dict _, _ => false
def kdAll (K : PySem.W.Frag) : List D → List Value → Bool
  | [], us => (match us with
    | [] => true
    | _ :: _ => false)
  | d :: ds, us => (match us with
    | [] => false
    | u :: us => kdB K d u && kdAll K ds us)
end
mutual
theorem kdB_ok {K : PySem.W.Frag} : ∀ (d : D) (u : Value), kdB K d u = true → ∃ v, RelV v u ∧ ∀ H, Rp K H v d
  | .none, u, h => by
    unfold kdB at h
    split at h
    · exact ⟨.non, rfl, fun H => .non⟩
    · cases h
  | .bool b, u, h => by
    unfold kdB at h
    split at h
    · rename_i c
      have e : b = c := eq_of_beq h
      subst e
      exact ⟨.bl b, rfl, fun H => .bl b⟩
    · cases h
  | .int i, u, h => by
    unfold kdB at h
    split at h
    · rename_i j t
      have e : i = j := of_decide_eq_true h
      subst e
      exact ⟨.int i, ⟨t, rfl⟩, fun H => .int i⟩
    · cases h
  | .str x, u, h => by
    unfold kdB at h
    split at h
    · rename_i j t
      have e : x = j := of_decide_eq_true h
      subst e
      exact ⟨.str x, ⟨t, rfl⟩, fun H => .str x⟩
    · cases h
  | .tuple ds, u, h => by
    unfold kdB at h
    split at h
    · rename_i a
      split at h
      · rename_i c od its n sl hl
        rw [Bool.and_eq_true, Bool.and_eq_true] at h
        obtain ⟨h1, h2, h3⟩ := h
        have e : c = "tuple" := of_decide_eq_true h1
        subst e
        have hz : its.size ≤ 100000 := of_decide_eq_true h2
        obtain ⟨vs, r1, r2⟩ := kdAll_ok ds its.toList h3
        exact ⟨.ref a, rfl, fun H => .tup (.inr ⟨_, its, n, hl, rfl, rfl, small100k hz, r1⟩) (r2 H)⟩
      · cases h
    · cases h
  | .list _, u, h => by
    unfold kdB at h
    cases h
  | .dict _, u, h => by
    unfold kdB at h
    cases h
theorem kdAll_ok {K : PySem.W.Frag} : ∀ (ds : List D) (us : List Value), kdAll K ds us = true → ∃ vs, Vals vs us ∧ ∀ H, RpAll K H vs ds
  | [], us, h => by
    unfold kdAll at h
    split at h
    · exact ⟨[], .nil, fun H => .nil⟩
    · cases h
  | d :: ds, us, h => by
    unfold kdAll at h
    split at h
    · cases h
    · rename_i u us
      rw [Bool.and_eq_true] at h
      obtain ⟨v, r1, q1⟩ := kdB_ok d u h.1
      obtain ⟨vs, r2, q2⟩ := kdAll_ok ds us h.2
      exact ⟨v :: vs, .cons r1 r2, fun H => .cons (q1 H) (q2 H)⟩
end
/-- a name of the module that stands for data -/
def conD (K : PySem.W.Frag) (x : Str) (d : D) : Bool := match PySem.W.nsIn K mainGlobals x with
  | some (some u) => kdB K d u
  | _ => false
/-- a table of the module, its values -/
def tabD (K : PySem.W.Frag) (a : Addr) (kvs : List (Str × D)) : Bool := kvs.all fun q => match PySem.W.nsIn K a q.1 with
  | some (some u) => kdB K q.2 u
  | _ => false
def noLists (K : PySem.W.Frag) : Bool := K.all fun p => match p.2.cls with
  | .type c => decide (c ≠ "list")
  | _ => true
theorem conD_ok {K : PySem.W.Frag} {h : Heap} {mg : Str → Option Value} (X : K.In h) (G : h.Ns mainGlobals mg) {x : Str} {d : D} (c : conD K x d = true) : ∃ v u, mg x = some u ∧ RelV v u ∧ ∀ H, Rp K H v d := by
  unfold conD at c
  split at c
  · rename_i u e
    obtain ⟨v, r, q⟩ := kdB_ok d u c
    exact ⟨v, u, PySem.W.mg_of X G e, r, q⟩
  · cases c
theorem tabD_ok {K : PySem.W.Frag} {a : Addr} {kvs : List (Str × D)} (c : tabD K a kvs = true) {x : Str} {d : D} (h : kvs.lookup x = some d) : ∃ u v, PySem.W.nsIn K a x = some (some u) ∧ RelV v u ∧ ∀ H, Rp K H v d := by
  have hm : (x, d) ∈ kvs := by
    clear c
    induction kvs with
    | nil => cases h
    | cons p r ih =>
      obtain ⟨y, e⟩ := p
      have h2 : (match x == y with | true => some e | false => r.lookup x) = some d := h
      cases q : (x == y) with
      | true =>
        rw [q] at h2
        have e2 : e = d := Option.some.inj h2
        rw [e2, beq_iff_eq.mp q]
        exact List.mem_cons_self
      | false =>
        rw [q] at h2
        exact List.mem_cons_of_mem _ (ih h2)
  have q := List.all_eq_true.mp c (x, d) hm
  split at q
  · rename_i u e
    obtain ⟨v, r, k⟩ := kdB_ok d u q
    exact ⟨u, v, e, r, k⟩
  · cases q
theorem noLists_rd {K : PySem.W.Frag} {H : Hp} {a : Addr} {xs : List V} (h : noLists K = true) (hs : SqL K H a xs) : Rd H a (.lst xs) := by
  rcases hs with hs | ⟨o, its, n, hk, hc, _⟩
  · exact hs
  · have q := List.all_eq_true.mp h (a, o) (He.lookup_mem hk)
    have q : (match o.cls with
      | .type c => decide (c ≠ "list")
      | _ => true) = true := q
    rw [hc] at q
    exact absurd rfl (of_decide_eq_true q)

section
variable {X : Cx} {K : PySem.W.Frag} {G : Gd} {E : XK} {pos : Pos} {a b e : Expr} {es : List Expr} {f g h : DE → R D} {fs : DE → R (List D)}
/-- T[e] -/
def dTab (kvs : List (Str × D)) : D → R D
  | .str z => match kvs.lookup z with
    | some d => .ok d
    | none => .bad
  | _ => .bad
theorem pd_tab {x : Str} {t : Addr} {en : Array DictEntry} {n : Nat} {kvs : List (Str × D)} {p : Pos} (Dk : KDict X.K X.w t en n) (hv : tabD X.K t kvs = true) (hg : Gl X x) (hm : X.mg x = some (.ref t)) (hb : PD G E X b g) (hp : PlainIx b := by exact (fun _ _ => rfl)) (hd : (x == ("__debug__" : Str)) = false := by decide) :
    PD G E X (.Subscript (.Name x p) b pos) (eUn (dTab kvs) g) := by
  refine pe_imp (pe_ix ix_kdict (pe_glob (v := .ref t) hg hm rfl hd) hb hp) ?_
  intro σ H Q h
  obtain ⟨ρ, hr, ho⟩ := h
  refine ⟨ρ, hr, (Out.bind (rel := Rp X.K) ho).mono ?_⟩
  rintro y H1 e1 - ⟨d1, hd1, _, hx, ho⟩
  unfold dTab at ho
  split at ho
  · rename_i z
    split at ho
    · rename_i d hl
      cases hx
      obtain ⟨u, v, q1, q2, q3⟩ := tabD_ok hv hl
      exact ⟨t, z, v, rfl, rfl, ⟨en, n, u, Dk.at_, Dk.lit, q1, q2⟩, ho v H1 (Ex.refl H1) (q3 H1)⟩
    · exact ho.elim
  · exact ho.elim

/-! ### [..] * n -/
def rRepR : R2 := fun x y H Q => ∃ l k xs, x = .ref l ∧ y = .int k ∧ Rd H l (.lst xs) ∧ -(2 ^ 63) ≤ k ∧ k < 2 ^ 63 ∧ xs.length * k.toNat ≤ sizeLine ∧
  ∀ p, H p = none → Q (.ref p) (upd H p (.lst (List.replicate k.toNat xs).flatten))
theorem op_repR : OpR X (binaryOp .Mult) rRepR := by
  intro pins s σ H x y v u Q I rx ry h
  obtain ⟨l, k, xs, rfl, rfl, hH, h1, h2, hz, q⟩ := h
  cases rx
  obtain ⟨t, rfl⟩ := ry
  obtain ⟨its, n, z, r, hl, e⟩ := Rd.its I hH
  have hlen : its.toArray.size * k.toNat ≤ sizeLine := by rw [List.size_toArray, ← hl]; exact hz
  have hcap : ¬ its.toArray.size * k.toNat > (2 ^ 63 - 1) / 8 := by
    have : (sizeLine : Nat) ≤ (2 ^ 63 - 1) / 8 := by decide
    omega
  have hfit : ¬ (!Builtin.List.listFitsIndex k) = true := by
    rw [fitsIndex_both h1 h2]
    exact Bool.false_ne_true
  have hlong : ¬ Builtin.List.listTooLong (its.toArray.size * k.toNat) = true := by
    rw [notLongL hlen]
    exact Bool.false_ne_true
  have hnew : List.foldl (fun x1 x2 => x1 ++ x2) #[] (List.replicate (if its.toArray.isEmpty = true then 0 else k.toNat) its.toArray) = (List.replicate k.toNat its).flatten.toArray := by
    have f0 : ∀ m : Nat, List.foldl (fun x1 x2 => x1 ++ x2) #[] (List.replicate m its.toArray) = (List.replicate m its).flatten.toArray := fun m => by
      have := foldl_rep its m []
      rw [List.nil_append] at this
      exact this
    rw [f0]
    cases its with
    | nil => simp
    | cons a r' => rw [if_neg (by simp)]
  refine wpAny_binaryOp_repeat_ref (T := "list") (U := "int") (by decide) ⟨_, e, rfl⟩ (fun s' => typeIs_int s' k t) noFill_list_mul F.fills_int_mul F.slot_int_rmul repeat_list F.slot_int_index.lookup
    (call_meets F.slot_int_rmul (typeIs_int s k t) F.entry_int_rmul (F.args_int_rmul_2 _ _) (int___rmul___int_list k t l its.toArray n)
      ⟨e, rfl, ⟨_, e, rfl⟩, call_meets F.slot_list_mul ⟨_, e, rfl⟩ F.entry_list_mul (F.args_list_mul_2 _ _) (AutoListH.list___mul___list_int_3 l its.toArray n k t hfit hcap hlong) ⟨e, ?_⟩⟩)
  rw [hnew]
  exact ⟨.ref _, _, I.lnew (t' := s.toks) (r.rep k.toNat) (by rw [PyProof.Rows.lm_len_rep_flat, Nat.mul_comm]; exact hz), rfl, q _ I.fresh⟩
def dRep : D → D → R D
  | .list ds, .int k => if -(2 ^ 63) ≤ k ∧ k < 2 ^ 63 ∧ ds.length * k.toNat ≤ 100000 then .ok (.list (List.replicate k.toNat ds).flatten) else .bad
  | _, _ => .bad
theorem rp_rep {H : Hp} {vs : List V} {ds : List D} (h : RpAll K H vs ds) : ∀ n : Nat, RpAll K H (List.replicate n vs).flatten (List.replicate n ds).flatten
  | 0 => .nil
  | n + 1 => by
    rw [List.replicate_succ, List.replicate_succ, List.flatten_cons, List.flatten_cons]
    exact RpAll.app h (rp_rep h n)
theorem ok_rep : OkOp G E K rRepR dRep := by
  intro H x y d1 d2 Q bd h1 h2 ho
  unfold dRep at ho
  split at ho
  · rename_i ds k
    by_cases hm : -(2 ^ 63) ≤ k ∧ k < 2 ^ 63 ∧ ds.length * k.toNat ≤ 100000
    · rw [if_pos hm] at ho
      cases h2
      cases h1 with
      | lst a b => exact ⟨_, k, _, rfl, rfl, a, hm.1, hm.2.1, small100k (by rw [RpAll.len b]; exact hm.2.2), fun p hp => ho _ _ (Ex.new hp) (.lst (.inl upd_same) ((Ex.new (T := G.T) hp).rps (rp_rep b _)))⟩
    · rw [if_neg hm] at ho
      exact ho.elim
  · exact ho.elim
theorem pd_rep (ha : PD G E X a f) (hb : PD G E X b g) : PD G E X (.BinOp a .Mult b pos) (eOp dRep f g) := pd_bin op_repR ok_rep ha hb

/-! ### a dict of texts, written out; d.get(k, x) -/
def kvV (q : Str × Str) : Key × V := (.inr q.1, .str q.2)
def kvD (q : Str × Str) : D × D := (.str q.1, .str q.2)
def trC (q : Str × Str) : TE × TE := (tC (.str q.1), tC (.str q.2))
theorem pairs_c {σ : L2.St} {H : Hp} : ∀ {kvs : List (Str × Str)} {Q : List (V × V) → Hp → Prop}, Q (kvs.map fun q => (kV (kvV q).1, (kvV q).2)) H → tPairs (kvs.map trC) σ H Q
  | [], Q, h => h
  | q :: r, Q, h => pairs_c (kvs := r) h
theorem pps_one {keys : List (Option Expr)} {vals : List Expr} {kvs : List (Str × Str)} {x y : Str} {i j : Nat} {p1 p2 : Pos} (h : PPs X pos keys vals (kvs.map trC)) : PPs X pos (some (.Constant (.str x) i p1) :: keys) (.Constant (.str y) j p2 :: vals) (((x, y) :: kvs).map trC) := pps_cons pe_str pe_str h
theorem pps_none : PPs X pos [] [] (([] : List (Str × Str)).map trC) := pps_nil
theorem merge_nodup : ∀ (kvs acc : List (Str × Str)), ((acc ++ kvs).map fun q => q.1).Nodup → mergeK (acc.map kvV) (kvs.map kvV) = (acc ++ kvs).map kvV
  | [], acc, h => by rw [List.append_nil]; rfl
  | q :: r, acc, h => by
    have hn : valV (acc.map kvV) (kvV q).1 = none := by
      cases e : valV (acc.map kvV) (kvV q).1 with
      | none => rfl
      | some v =>
        exfalso
        unfold valV at e
        cases e2 : (acc.map kvV).find? fun kv => decide (kv.1 = (kvV q).1) with
        | none => rw [e2] at e; cases e
        | some kv =>
          have hm := List.mem_of_find?_eq_some e2
          have hk := List.find?_some e2
          obtain ⟨z, hz, rfl⟩ := List.mem_map.mp hm
          have hk : decide ((kvV z).1 = (kvV q).1) = true := hk
          have hk2 : (Sum.inr z.1 : Key) = Sum.inr q.1 := of_decide_eq_true hk
          have hk3 : z.1 = q.1 := Sum.inr.inj hk2
          rw [List.map_append, List.map_cons] at h
          have := (List.nodup_append.mp h).2.2 z.1 (List.mem_map.mpr ⟨z, hz, rfl⟩) q.1 (by simp)
          exact this hk3
    have hp : putK (acc.map kvV) (kvV q).1 (kvV q).2 = (acc ++ [q]).map kvV := by
      rw [putK_new _ hn, List.map_append]
      rfl
    show mergeK (putK (acc.map kvV) (kvV q).1 (kvV q).2) (r.map kvV) = _
    rw [hp, merge_nodup r (acc ++ [q]) (by simpa using h)]
    simp
theorem rp_kv {H : Hp} : ∀ kvs : List (Str × Str), RpAll K H ((kvs.map kvV).map fun p => p.2) (kvs.map fun q => PyData.str q.2)
  | [] => .nil
  | q :: r => .cons (.str _) (rp_kv r)
theorem zip_kv : ∀ kvs : List (Str × Str), kvs.map kvD = ((kvs.map kvV).map fun p => keyD p.1).zip (kvs.map fun q => PyData.str q.2)
  | [] => rfl
  | q :: r => by
    rw [List.map_cons, zip_kv r]
    rfl
theorem pd_dict {keys : List (Option Expr)} {vals : List Expr} (kvs : List (Str × Str)) (h : PPs X pos keys vals (kvs.map trC)) (hall : keys.all (·.isSome) = true := by rfl) (hl : keys.length = vals.length := by rfl) (h0 : keys ≠ [] := by exact (List.cons_ne_nil _ _)) (h15 : keys.length ≤ 15 := by decide)
    (hk : kvs.length ≤ 15 := by decide) (hnd : (kvs.map fun q => q.1).Nodup := by decide) : PD G E X (.Dict keys vals pos) (eC (.dict (kvs.map kvD))) := by
  refine pe_imp (pe_disp h hall hl h0 h15) ?_
  rintro σ H Q ⟨ρ, hr, ho⟩ p hp
  refine pairs_c ⟨upd_same, kvs.map kvV, ?_, by rw [List.length_map]; exact hk, ?_⟩
  · rw [List.map_map]
    rfl
  · rw [upd_upd, show mergeK [] (kvs.map kvV) = kvs.map kvV from merge_nodup kvs [] (by simpa using hnd)]
    exact ho (.ref p) _ (Ex.new hp) (.dic (.inl upd_same) (rp_kv kvs) (zip_kv kvs))
def getD? (es : List (D × D)) (z : Str) : Option D := (es.find? fun q => match q.1 with
  | .str x => decide (x = z)
  | _ => false).map fun q => q.2
/-- d.get(k, x), k a text -/
def eGet (f g h : DE → R D) : DE → R D := fun ρ => (f ρ).bind fun d => match d with
  | .dict es => if isFnE es = true then .bad else (g ρ).bind fun k => (h ρ).bind fun x => match k with
    | .str z => .ok ((getD? es z).getD x)
    | _ => .bad
  | _ => .bad
theorem get_rp {H : Hp} {z : Str} : ∀ {kvs : List (Key × V)} {ds : List D}, RpAll K H (kvs.map fun p => p.2) ds → (valV kvs (.inr z) = none ∧ getD? ((kvs.map fun p => keyD p.1).zip ds) z = none) ∨ ∃ v d, valV kvs (.inr z) = some v ∧ getD? ((kvs.map fun p => keyD p.1).zip ds) z = some d ∧ Rp K H v d
  | [], ds, h => .inl ⟨rfl, rfl⟩
  | (k, v) :: r, ds, h => by
    rw [List.map_cons] at h
    cases h with
    | @cons _ _ d es h1 h2 =>
      have ih := get_rp (z := z) h2
      rw [List.map_cons, List.zip_cons_cons]
      by_cases e : k = .inr z
      · refine .inr ⟨v, d, valV_pos e, ?_, h1⟩
        unfold getD?
        rw [List.find?_cons]
        subst e
        have : (match keyD (Sum.inr z) with | PyData.str x => decide (x = z) | _ => false) = true := by
          show decide (z = z) = true
          exact decide_eq_true rfl
        simp only [this]
        rfl
      · have e1 : valV ((k, v) :: r) (.inr z) = valV r (.inr z) := valV_neg e
        have e2 : getD? ((keyD k, d) :: (r.map fun p => keyD p.1).zip es) z = getD? ((r.map fun p => keyD p.1).zip es) z := by
          unfold getD?
          rw [List.find?_cons]
          have : (match keyD k with | PyData.str x => decide (x = z) | _ => false) = false := by
            cases k with
            | inl i => rfl
            | inr y =>
              show decide (y = z) = false
              exact decide_eq_false fun q => e (by rw [q])
          simp only [this]
        rw [e1, e2]
        exact ih
theorem pd_get {apos cpos : Pos} (hu : X.A.units + 66 < cLine) (ho : PD G E X a f) (he : PD G E X b g) (hf : PD G E X e h) (m : M2 X a "get" apos b e cpos := by exact ⟨rfl, rfl, rfl, rfl⟩) : PD G E X (.Call (.Attribute a "get" apos) [b, e] [] cpos) (eGet f g h) := by
  refine pe_imp (pe_dget2 (by omega) ho he hf m) ?_
  intro σ H Q hq
  obtain ⟨ρ, hr, ho⟩ := hq
  refine ⟨ρ, hr, (Out.bind (rel := Rp X.K) ho).mono ?_⟩
  rintro x H1 e1 - ⟨d1, hd1, _, hx, ho⟩
  cases d1 with
  | dict es =>
    have hn : ¬ isFnE es = true := fun hn => by
      have ho : Out G E (Rp X.K) H1 (if isFnE es = true then R.bad else (g ρ).bind fun k => (h ρ).bind fun x => match k with
        | .str z => .ok ((getD? es z).getD x)
        | _ => .bad) Q := ho
      rw [if_pos hn] at ho
      exact ho
    have ho : Out G E (Rp X.K) H1 (if isFnE es = true then R.bad else (g ρ).bind fun k => (h ρ).bind fun x => match k with
      | .str z => .ok ((getD? es z).getD x)
      | _ => .bad) Q := ho
    rw [if_neg hn] at ho
    cases hx with
    | fn x => exact absurd rfl hn
    | @dic a1 kvs ds _ q1 q2 q3 =>
      refine ⟨a1, rfl, .inl ⟨kvs, q1⟩, ρ, hr.ext e1, (Out.bind (rel := Rp X.K) ho).mono ?_⟩
      rintro y H2 e2 - ⟨d2, hd2, _, hy, ho⟩
      refine ⟨ρ, (hr.ext e1).ext e2, (Out.bind (rel := Rp X.K) ho).mono ?_⟩
      rintro w H3 e3 - ⟨d3, hd3, _, hw, ho⟩
      cases d2 with
      | str z =>
        cases hy
        have e13 := e2.trans e3
        have hd := rdD_ext e13.keep q1
        refine ⟨valV kvs (.inr z), .inl ⟨kvs, .inr z, hd, rfl, rfl⟩, ?_⟩
        have ho : Out G E (Rp X.K) H3 (R.ok ((getD? es z).getD d3)) Q := ho
        rw [q3] at ho
        rcases get_rp (z := z) (e13.rps q2) with ⟨n1, n2⟩ | ⟨v, d, n1, n2, n3⟩
        · rw [n1]
          rw [n2] at ho
          exact ho w H3 (Ex.refl H3) hw
        · rw [n1]
          rw [n2] at ho
          exact ho v H3 (Ex.refl H3) n3
      | _ => exact ho.elim
  | _ => exact ho.elim

/-! ### a list of the def's own, handed out -/
variable {P : Program} {w : World} {mg : Str → Option Value} {base : Heap}
def sRetO (i : Nat) : SB := fun ρ => match (ρ[i]? : Option Sl) with
  | some (.ow ds) => .ok (.ro ds)
  | _ => .bad
theorem psd_retO {i : Nat} {x : Str} {p1 : Pos} (hv : PE X (.Name x p1) (tVar i)) : PSD G E X (.Return (some (.Name x p1)) pos) (sRetO i) := by
  refine ps_imp (ps_ret hv) ?_
  rintro Dn σ H ⟨B, ρ, ad, L, r, k⟩
  unfold sRetO at k
  split at k
  · rename_i ds hi
    obtain ⟨h1, vs, h2, h3⟩ := r.lst i ds hi
    refine ⟨_, h1, k _ vs H ?_ h2 ?_⟩
    · have : ∀ a' ∈ [ad i], B a' = none := fun a' ha' => by
        rw [show a' = ad i by simpa using ha']
        exact repS_none r _ (r.mem i ds hi)
      exact ex_hid r.exH (owns_one h2) this
    · refine (Sub.ex (T := G.T) ?_).rps h3
      intro b o e
      obtain ⟨e1, e2⟩ := hid_some e
      rw [hid_out (fun z => e2 (by rw [show b = ad i by simpa using z]; exact r.mem i ds hi))]
      exact e1
  · exact k.elim
/-- the promise: a list that nothing else speaks of comes back -/
def rO (K : PySem.W.Frag) : Hp → V → List D → Prop := fun H v ds => ∃ a vs, v = .ref a ∧ H a = some (.lst vs) ∧ RpAll K (hid H [a]) vs ds
def OutO (G : Gd) (E : XK) (K : PySem.W.Frag) (H : Hp) (r : R (List D)) (Q : VK) : Prop := match r with
  | .ok ds => ∀ a vs H', Ex G.T H (hid H' [a]) → H' a = some (.lst vs) → RpAll K (hid H' [a]) vs ds → Q (.ref a) H'
  | .err c => ∀ H', Ex G.T H H' → E (.ref (G.cl c)) none H'
  | .bad => False
def spO (G : Gd) (K : PySem.W.Frag) (n : Nat) (F : List D → R (List D)) : Sp := fun vs H Q E => vs.length = n ∧ LamX.Tabs G.T H ∧ ∃ ds, RpAll K H vs ds ∧ OutO G E K H (F ds) Q
def runO (n : Nat) (g : SB) (ds : List D) : R (List D) := (g (startD n ds)).bind fun fl => match fl with
  | .ro ds => .ok ds
  | _ => .bad
def listR (r : R (List D)) : R D := r.bind fun ds => .ok (.list ds)
theorem spD_of_O {n k : Nat} {f : Addr} {fd : FuncData} {ps : List Str} {F : List D → R (List D)} (h : FnOk P w K mg base (L2N.CX P w) k f fd ps (spO G K n F)) : FnOk P w K mg base (L2N.CX P w) k f fd ps (spD G K n fun ds => listR (F ds)) := by
  refine h.imp fun vs H Q E q => ?_
  obtain ⟨h1, h2, ds, h3, h4⟩ := q
  refine ⟨h1, h2, ds, h3, ?_⟩
  have h4 : Out G E (Rp K) H ((F ds).bind fun ds => .ok (.list ds)) Q := h4
  cases hF : F ds with
  | bad => rw [hF] at h4; exact h4
  | err c => rw [hF] at h4; exact h4
  | ok es =>
    rw [hF] at h4
    exact fun a vs H' e ha r => h4 (.ref a) H' (e.trans (hid_sub.ex)) (.lst (.inl ha) ((hid_sub.ex (T := G.T)).rps r))
def tO (G : Gd) (E : XK) (K : PySem.W.Frag) (f : DE → R (List D)) : TE := fun σ H Q => ∃ ρ, RepE G K H σ ρ ∧ OutO G E K H (f ρ) Q
def eCallO (F : List D → R (List D)) (fs : DE → R (List D)) : DE → R (List D) := fun ρ => (fs ρ).bind F
theorem OutO.ext {r : R (List D)} {Q : VK} {H H1 : Hp} (e : Ex G.T H H1) (h : OutO G E K H r Q) : OutO G E K H1 r Q := by
  cases r with
  | ok ds => exact fun a vs H' e' => h a vs H' (e.trans e')
  | err c => exact fun H' e' => h H' (e.trans e')
  | bad => exact h
theorem po_call {k : Nat} {f : Addr} {fd : FuncData} {ps : List Str} {F : List D → R (List D)} {fs : DE → R (List D)} {x : Str} {p : Pos} {n : Nat} (Fn : FnOk X.prog X.w X.K X.mg X.base (L2N.CX X.prog X.w) k f fd ps (spO G X.K n F)) (hr : Room k X.A) (hg : Gl X x) (hm : X.mg x = some (.ref f)) (hk : PySem.W.keepIn X.K (.ref f) = true) (hb : Binds X.K fd ps [])
    (hx : Passes (L2N.CX X.prog X.w) X E) (ha : PDA G E X (e :: es) fs) (hn : ∀ ρ l, fs ρ = .ok l → l.length = n) (hdb : (x == ("__debug__" : Str)) = false := by decide) (he : starEach (e :: es) X.env = (false, eval e X.env) :: starEach es X.env := by rfl) (hpl : (backTo pos (starEach es X.env)).any (·.1) = false := by rfl) :
    PE X (.Call (.Name x p) (e :: es) [] pos) (tO G E X.K (eCallO F fs)) := by
  refine pe_imp (pe_call Fn hr hg hm hk hb .nil hx ha hdb he hpl) ?_
  rintro σ H Q ⟨ρ, hr, ho⟩
  refine ⟨ρ, hr, ?_⟩
  unfold eCallO at ho
  cases hf : fs ρ with
  | bad => rw [hf] at ho; exact ho
  | err c => rw [hf] at ho; exact ho
  | ok ds =>
    rw [hf] at ho
    have ho : OutO G E X.K H (F ds) Q := ho
    intro xs H1 e1 hx
    refine ⟨?_, e1.tabs hr.1, ds, by rw [List.append_nil]; exact hx, OutO.ext e1 ho⟩
    rw [List.append_nil, RpAll.len hx]
    exact hn ρ ds hf
/-- f(..).append(None), what comes back is let go -/
def sDrop (S : List Nat) (f : DE → R (List D)) : SB := fun ρ => (f (vw S ρ)).bind fun ds => if ds.length < 100000 then .ok (.nx (frz S ρ)) else .bad
theorem unh_upd {H H2 : Hp} {L : List Addr} {p : Addr} {o : HO} (h : p ∉ L) : unh H L (upd H2 p o) = upd (unh H L H2) p o := by
  funext b
  by_cases hb : b ∈ L
  · rw [unh_in hb, upd_ne (fun e => h (by rw [← e]; exact hb)), unh_in hb]
  · rw [unh_out hb]
    by_cases e : b = p
    · subst e
      rw [upd_same, upd_same]
    · rw [upd_ne e, upd_ne e, unh_out hb]
theorem psd_drop (S : List Nat) {f : DE → R (List D)} {apos cpos p2 : Pos} {j : Nat} (ho : PE X e (tO G E X.K f))
    (hbase : attributeBase e "append" X.env (eval e X.env) = eval e X.env := by rfl)
    (hfew : ((backTo cpos (starEach [.Constant .none j p2] X.env)).all (fun x => !x.1) && (backToKw cpos (keywordEach [] X.env)).all (fun x => x.1.isSome) && decide ([Expr.Constant .none j p2].length + ([] : List Keyword).length + (if ([] : List Keyword).isEmpty then 0 else 1) < 30)) = true := by rfl)
    (hline : (apos.endLine == cpos.line) = true := by rfl) (hs : starEach [.Constant .none j p2] X.env = (false, eval (.Constant .none j p2) X.env) :: starEach [] X.env := by rfl) (hplain : (backTo cpos (starEach [] X.env)).any (·.1) = false := by rfl)
    (hsw : swapsWith (.Call (.Attribute e "append" apos) [.Constant .none j p2] [] cpos) none pos.line X.env = pure false := by rfl) : PSD G E X (.Expr (.Call (.Attribute e "append" apos) [.Constant .none j p2] [] cpos) pos) (sDrop S f) := by
  refine ps_imp (ps_expr (pe_bm PySem.F.plainAttrs_list PySem.F.slot_list_append PySem.F.type_list_append mt_append (pe_hide ho) (pa_cons pe_non pa_nil hs) hbase hfew hline hs hplain) hsw) ?_
  rintro Dn σ H ⟨B, ρ, ad, L, r, k⟩
  obtain ⟨L', ow, re, eB, after⟩ := r.split S
  refine ⟨L', ow, vw S ρ, re, ?_⟩
  unfold sDrop at k
  cases hf : f (vw S ρ) with
  | bad => rw [hf] at k; exact k
  | err c =>
    rw [hf] at k
    exact fun H' e' => k H' (eB.trans e')
  | ok ds =>
    rw [hf] at k
    have k : OutS G E X.K B (if ds.length < 100000 then R.ok (Fl.nx (frz S ρ)) else .bad) Dn := k
    by_cases hz : ds.length < 100000
    · rw [if_pos hz] at k
      intro a vs H2 e2 ha rv hn
      have na : a ∉ L' := fun z => by
        rw [hn a z] at ha
        cases ha
      have hH : unh H L' H2 a = some (.lst vs) := by rw [unh_out na]; exact ha
      refine ⟨.inl ⟨rfl, vs, .inl (.inl hH)⟩, a, vs, .non, rfl, rfl, hH, small100kl (by rw [RpAll.len rv]; exact hz), ?_⟩
      have e3 : Ex G.T (hid H L') (upd H2 a (.lst (vs ++ [.non]))) := by
        refine Ex.trans ?_ ((hid_sub (L := [a])).ex)
        rw [hid_updI (by simp)]
        exact e2
      obtain ⟨q1, q2, q3⟩ := after _ e3 (fun b hb => by rw [upd_ne (fun z => na (by rw [← z]; exact hb))]; exact hn b hb)
      rw [unh_upd na] at q1
      exact k _ _ ad L' q1
    · rw [if_neg hz] at k
      exact k.elim

/-! ### the law's end -/
theorem law_rp {K : PySem.W.Frag} {H : Hp} {a : Addr} {ns : List Int} (h : noLists K = true) (hs : SqL K H a (ns.map V.int)) : Rp K H (.ref a) (.list (ns.map PyData.int)) := by
  refine .lst (noLists_rd h hs) ?_
  clear hs
  induction ns with
  | nil => exact .nil
  | cons n r ih => exact .cons (.int n) ih
/-- the law's promise, from the def's -/
theorem law_sp {K : PySem.W.Frag} {H : Hp} {a : Addr} {ns : List Int} {F : List D → R D} (hk : noLists K = true) (ht : LamX.Tabs G.T H) (hs : SqL K H a (ns.map V.int)) (hF : F [.list (ns.map PyData.int)] = .ok (.bool true)) : spD G K 1 F [.ref a] H (fun v _ => v = .bl true) fun _ _ _ => False := by
  refine ⟨rfl, ht, [.list (ns.map PyData.int)], .cons (law_rp hk hs) .nil, ?_⟩
  rw [hF]
  intro v H' e r
  cases r
  rfl
end
end DL
set_option Elab.async false
set_option linter.all false
set_option maxRecDepth 100000
set_option maxHeartbeats 4000000
/-! DL11: y = [..] as a statement; helpers for printed terms. -/
namespace DL
open PySem PySem.Spec PyProof.Rows L2 RZ
section
variable {G : Gd} {E : XK} {X : Cx} {K : PySem.W.Frag} {B H : Hp} {σ : L2.St} {e elt tg iter : Expr} {es ifs : List Expr} {pos : Pos} {ad : Nat → Addr} {L : List Addr}
theorem frz_view {S : List Nat} {ρ : SE} {i : Nat} {d : D} (h : (vw S ρ)[i]? = some (some d)) : (frz S ρ)[i]? = some (.fz d) := by
  unfold frz
  rw [List.getElem?_mapIdx]
  rcases vw_some h with q | ⟨ds, q, hi, rfl⟩
  · rw [q]
    rfl
  · rw [q]
    show some (if i ∈ S then Sl.fz (.list ds) else .ow ds) = _
    rw [if_pos hi]
theorem RepS.view {S : List Nat} {ρ : SE} (r : RepS G K B H σ (frz S ρ) ad L) : RepE G K (hid H L) σ (vw S ρ) :=
  ⟨r.tabs, fun i d h => r.fz i d (frz_view h), by rw [vw_len, r.len, frz_len]⟩
theorem lc_main {ρ : DE} {vs : List Nat} {p : TP} {ft : DE → R Bool} {fe : DE → R D} {J : It} {items total : List D} {H1 : Hp} {L2 : List Addr} {Q : VK} (hp : ∀ i ∈ p.names, i ∈ vs) (ow2 : Owns H1 L2) (w : WalkD G.T K J (hid H1 L2) items) (hr0 : RepE G K (hid H1 L2) σ ρ)
    (htot : compL (wipeE ρ vs) p ft fe items = .ok total)
    (hQ : ∀ a acc H', H1 a = none → Ex G.T (hid H1 L2) (hid H' (a :: L2)) → (∀ b ∈ L2, H' b = H1 b) → H' a = some (.lst acc) → RpAll K (hid H' (a :: L2)) acc total → Q (.ref a) H') :
    ∀ D, H1 D = none → ∃ W : Nat → Nat → Hp → Prop, (∃ m, W 0 m (upd H1 D (.lst []))) ∧ ∀ i m H, W i m H → (J.stop i H ∧ Q (.ref D) H) ∨ (J.go i H ∧ ∃ Nx : Hp → Prop, (∀ H', Nx H' → ∃ m', m' < m ∧ W (i + 1) m' H') ∧
      ∀ x H', J.yld i H x H' → p.g K x (wipe σ vs) H' fun σ2 H2 => wipe σ2 vs = wipe σ vs ∧ tHideT (tDT G E0 K ft) σ2 H2 fun b H3 =>
        if b = true then tHide (tD G E0 K fe) σ2 H3 fun y H4 => ∃ acc, H4 D = some (.lst acc) ∧ acc.length < sizeLine ∧ Nx (upd H4 D (.lst (acc ++ [y]))) else Nx H3) := by
  intro Da hD
  have nD : Da ∉ L2 := owns_none ow2 hD
  have hr1 : RepE G K (hid H1 L2) (wipe σ vs) (wipeE ρ vs) := repE_wipe _ hr0
  have same0 : ∀ {Hx : Hp} {o : HO}, (∀ b ∈ L2, Hx b = H1 b) → ∀ b ∈ L2, upd Hx Da o b = H1 b := fun {Hx o} h b hb => by rw [upd_ne (fun z => nD (by rw [← z]; exact hb))]; exact h b hb
  have own1 : ∀ {Hx : Hp} {acc : List V}, (∀ b ∈ L2, Hx b = H1 b) → Hx Da = some (.lst acc) → Owns Hx (Da :: L2) := fun {Hx acc} h1 h2 a ha => by
    rcases List.mem_cons.mp ha with z | z
    · exact ⟨acc, by rw [z]; exact h2⟩
    · obtain ⟨vs, q⟩ := ow2 a z
      exact ⟨vs, by rw [h1 a z]; exact q⟩
  have none1 : ∀ a ∈ Da :: L2, hid H1 L2 a = none := fun a ha => by
    rcases List.mem_cons.mp ha with z | z
    · rw [z, hid_out nD]
      exact hD
    · exact hid_in z
  have h0 : hid (upd H1 Da (.lst [])) (Da :: L2) = hid H1 L2 := by
    funext b
    by_cases hb : b ∈ L2
    · rw [hid_in hb, hid_in (List.mem_cons_of_mem _ hb)]
    · by_cases z : b = Da
      · rw [z, hid_in List.mem_cons_self, hid_out nD, hD]
      · rw [hid_out (fun q => (List.mem_cons.mp q).elim z hb), hid_out hb, upd_ne z]
  refine ⟨fun i m H => m = items.length - i ∧ i ≤ items.length ∧ (∀ b ∈ L2, H b = H1 b) ∧ Ex G.T (hid H1 L2) (hid H (Da :: L2)) ∧ ∃ acc ds rest, H Da = some (.lst acc) ∧ RpAll K (hid H (Da :: L2)) acc ds ∧ acc.length ≤ i ∧ compL (wipeE ρ vs) p ft fe (items.drop i) = .ok rest ∧ total = ds ++ rest,
    ⟨_, rfl, Nat.zero_le _, same0 fun _ _ => rfl, by rw [h0]; exact Ex.refl _, [], [], total, upd_same, .nil, Nat.le_refl _, htot, rfl⟩, ?_⟩
  rintro i m H ⟨rfl, hile, sm, ex, acc, ds, rest, hacc, hra, hlen, hcl, htt⟩
  have ownH : Owns H (Da :: L2) := own1 sm hacc
  have exH : Ex G.T (hid H1 L2) H := ex.trans (hid_sub.ex)
  by_cases hlt : i < items.length
  · refine .inr ⟨w.go i H exH hlt, fun H' => ∃ acc ds rest, (∀ b ∈ L2, H' b = H1 b) ∧ Ex G.T (hid H1 L2) (hid H' (Da :: L2)) ∧ H' Da = some (.lst acc) ∧ RpAll K (hid H' (Da :: L2)) acc ds ∧ acc.length ≤ i + 1 ∧ compL (wipeE ρ vs) p ft fe (items.drop (i + 1)) = .ok rest ∧ total = ds ++ rest,
      fun H' ⟨acc, ds, rest, qs, q0, q1, q2, q3, q4, q5⟩ => ⟨items.length - (i + 1), by omega, rfl, hlt, qs, q0, acc, ds, rest, q1, q2, q3, q4, q5⟩, fun x H2 hy => ?_⟩
    obtain ⟨e2, same2, d, hd, rx⟩ := w.yld i H x H2 (Da :: L2) exH ownH none1 hlt hy
    have hacc2 : H2 Da = some (.lst acc) := by rw [same2 Da List.mem_cons_self]; exact hacc
    have sm2 : ∀ b ∈ L2, H2 b = H1 b := fun b hb => (same2 b (List.mem_cons_of_mem _ hb)).trans (sm b hb)
    have hdrop : items.drop i = d :: items.drop (i + 1) := by
      rw [List.drop_eq_getElem_cons hlt]
      rw [List.getElem?_eq_getElem hlt] at hd
      rw [Option.some.inj hd]
    rw [hdrop] at hcl
    obtain ⟨ρ1, hb, hcl⟩ := bind_ok hcl
    obtain ⟨b, hft, hcl⟩ := bind_ok hcl
    refine bindE_g (H := hid H2 (Da :: L2)) hid_sub p d _ _ ρ1 x _ (hr1.ext (ex.trans e2)) rx hb fun σ2 rep2 wip => ⟨(wip vs hp).trans (wipe_wipe vs), ?_⟩
    refine ⟨Da :: L2, own1 sm2 hacc2, ρ1, rep2, ?_⟩
    rw [hft]
    intro b' H3 e3 hb' hn3
    have hb' : b' = b := hb'
    subst hb'
    have h3 : unh H2 (Da :: L2) H3 Da = some (.lst acc) := by rw [unh_in List.mem_cons_self]; exact hacc2
    have sm3 : ∀ b ∈ L2, unh H2 (Da :: L2) H3 b = H1 b := fun b hb => by rw [unh_in (List.mem_cons_of_mem _ hb)]; exact sm2 b hb
    have hh3 : hid (unh H2 (Da :: L2) H3) (Da :: L2) = H3 := hid_unh hn3
    cases b' with
    | true =>
      rw [if_pos rfl] at hcl ⊢
      obtain ⟨y, hfe, hcl⟩ := bind_ok hcl
      obtain ⟨rest', hcl', hcl2⟩ := bind_ok hcl
      cases hcl2
      refine ⟨Da :: L2, own1 sm3 h3, ρ1, ?_, ?_⟩
      · rw [hh3]
        exact rep2.ext e3
      · rw [hfe, hh3]
        intro yv H4 e4 ry hn4
        have h4 : unh (unh H2 (Da :: L2) H3) (Da :: L2) H4 Da = some (.lst acc) := by rw [unh_in List.mem_cons_self]; exact h3
        have sm4 : ∀ b ∈ L2, unh (unh H2 (Da :: L2) H3) (Da :: L2) H4 b = H1 b := fun b hb => by rw [unh_in (List.mem_cons_of_mem _ hb)]; exact sm3 b hb
        have hh4 : hid (upd (unh (unh H2 (Da :: L2) H3) (Da :: L2) H4) Da (.lst (acc ++ [yv]))) (Da :: L2) = H4 := by
          rw [hid_updI List.mem_cons_self, hid_unh hn4]
        refine ⟨acc, h4, Nat.lt_of_lt_of_le (Nat.lt_of_le_of_lt hlen hlt) w.small, acc ++ [yv], ds ++ [y], rest', same0 sm4, ?_, upd_same, ?_, ?_, hcl', ?_⟩
        · rw [hh4]
          exact ((ex.trans e2).trans e3).trans e4
        · rw [hh4]
          exact RpAll.app (((e2.trans e3).trans e4).rps hra) (.cons ry .nil)
        · rw [List.length_append, List.length_singleton]
          omega
        · rw [htt]
          simp
    | false =>
      rw [if_neg Bool.false_ne_true] at hcl ⊢
      refine ⟨acc, ds, rest, sm3, ?_, h3, ?_, by omega, hcl, htt⟩
      · rw [hh3]
        exact (ex.trans e2).trans e3
      · rw [hh3]
        exact (e2.trans e3).rps hra
  · have ei : i = items.length := by omega
    subst ei
    rw [List.drop_length] at hcl
    cases hcl
    rw [List.append_nil] at htt
    subst htt
    exact .inl ⟨w.stop H exH, hQ Da acc H hD ex sm hacc hra⟩
/-- y = [..], y a plain local -/
def sLc (i : Nat) (S : List Nat) (f : DE → R D) : SB := fun ρ => (f (vw S ρ)).bind fun d => .ok (.nx ((frz S ρ).set i (.fz d)))
theorem psd_setLc (S : List Nat) {i : Nat} {y : Str} {py spos : Pos} {scope : Scope} {own : List (Str × Nat)} {fi : DE → R (List D)} {p : TP} {ft : DE → R Bool} {fe : DE → R D} (hc : X.calm = true) (hN : X.N.Nodup) (hy : X.N[i]? = some y) (hyl : X.env.scope.names.lookup y = some .local)
    (hsw : swapsWith (.ListComp elt [⟨tg, iter, ifs, 0⟩] scope pos) (some (.Name y py)) spos.line X.env = pure true) (hi : PDI G E X tg iter fi) (ok : BlkOk X.N X.env.scope scope own) (hp : ∀ i ∈ p.names, i ∈ own.map (·.2))
    (hg : ∀ (s : Shared) (H : Hp) (C : Addr) (cl : List (Str × Addr)) (fp : List Addr), PGT (X.blk s H scope (compEnvC scope cl C X.env) fp) tg p) (ht : ∀ (s : Shared) (H : Hp) (C : Addr) (cl : List (Str × Addr)) (fp : List Addr), PDTs G E0 (X.blk s H scope (compEnvC scope cl C X.env) fp) ifs ft)
    (he : ∀ (s : Shared) (H : Hp) (C : Addr) (cl : List (Str × Addr)) (fp : List Addr), PD G E0 (X.blk s H scope (compEnvC scope cl C X.env) fp) elt fe) (hs : ∀ x, foldedSetIterable iter X.env x = pure x := by intro _; rfl) :
    PSD G E X (.Assign [.Name y py] (.ListComp elt [⟨tg, iter, ifs, 0⟩] scope pos) spos) (sLc i S (eComp (own.map (·.2)) fi p ft fe)) := by
  refine ps_imp (ps_setLc (g := p.g X.K) (tt := tHideT (tDT G E0 X.K ft)) (te := tHide (tD G E0 X.K fe)) hc hN hy hyl hsw (pxI hi S) ok hg (fun s H C cl fp => pts_hide (ht s H C cl fp)) (fun s H C cl fp => pe_hide (he s H C cl fp)) hs) ?_
  rintro Dn σ H ⟨B, ρ, ad, L, r, k⟩
  refine ⟨B, ρ, ad, L, r, ?_⟩
  unfold sLc eComp at k
  cases hq : fi (vw S ρ) with
  | bad => rw [hq] at k; exact k
  | err c => rw [hq] at k; exact k
  | ok items =>
    rw [hq] at k
    intro J H1 L1 r1 w
    have k : OutS G E X.K B (((compL (wipeE (vw S ρ) (own.map (·.2))) p ft fe items).pure?.bind fun l => R.ok (PyData.list l)).bind fun d => .ok (.nx ((frz S ρ).set i (.fz d)))) Dn := k
    obtain ⟨total, htot⟩ : ∃ total, compL (wipeE (vw S ρ) (own.map (·.2))) p ft fe items = .ok total := by
      cases q : compL (wipeE (vw S ρ) (own.map (·.2))) p ft fe items with
      | ok l => exact ⟨l, rfl⟩
      | err c => rw [q] at k; exact k.elim
      | bad => rw [q] at k; exact k.elim
    rw [htot] at k
    refine lc_main (Q := fun x H2 => gName i x σ H2 Dn.nx) hp r1.owns w r1.view htot fun a acc H' ha ex sm hacc hra => ?_
    have nA : a ∉ L1 := owns_none r1.owns ha
    have sb : Sub (hid H' (a :: L1)) (hid H' L1) := fun b o e => by
      obtain ⟨e1, e2⟩ := hid_some e
      rw [hid_out (fun z => e2 (List.mem_cons_of_mem _ z))]
      exact e1
    have r2 := r1.step (ex.trans sb.ex) sm
    have hd : Rp X.K (hid H' L1) (.ref a) (.list total) := .lst (.inl (by rw [hid_out nA]; exact hacc)) ((sb.ex (T := G.T)).rps hra)
    obtain ⟨L3, r3⟩ := r2.set (i := i) hd
    exact k _ H' ad L3 r3
theorem hu_of {k : Nat} {A : Around} (r : Room k A) : A.units + 66 < cLine := by
  have := r.un
  omega
theorem hu5_of {k : Nat} {A : Around} (r : Room k A) : A.units + 65 < cLine := by
  have := r.un
  omega
theorem hu4_of {k : Nat} {A : Around} (r : Room k A) : A.units + 64 < cLine := by
  have := r.un
  omega
end
end DL
set_option Elab.async false
set_option linter.all false
set_option maxRecDepth 100000
set_option maxHeartbeats 4000000
/-! DL12: what a printed proof asks of the module: constants, tables, errors, defs; calls by them. -/
namespace DL
open PySem PySem.Spec PyProof.Rows L2 RZ
abbrev gaM (K : PySem.W.Frag) (x : Str) : Addr := He.ga K x
/-- the module's name x stands for the data d -/
def ConF (K : PySem.W.Frag) (mg : Str → Option Value) (x : Str) (d : D) : Prop := ∃ v u, mg x = some u ∧ RelV v u ∧ ∀ H, Rp K H v d
/-- .. for a table with text keys -/
def TabF (K : PySem.W.Frag) (w : World) (mg : Str → Option Value) (x : Str) (kvs : List (Str × D)) : Prop := ∃ (t : Addr) (en : Array DictEntry) (n : Nat), mg x = some (.ref t) ∧ KDict K w t en n ∧ tabD K t kvs = true
/-- .. for a refusal's class -/
structure ExcF (K : PySem.W.Frag) (mg : Str → Option Value) (x : Str) (C : Addr) : Prop where
  g : mg x = some (.ref C)
  q : PySem.W.excIn K C He.veBase "ValueError.__new__" = true
  kp : PySem.W.keepIn K (.ref C) = true
  sb : PySem.W.subIn K (.ref C) (.type "BaseException") = some true
  ty : PySem.W.typeIn K (.ref C) = some (.type "type")
/-- .. for a def of the text -/
structure DefF (K : PySem.W.Frag) (mg : Str → Option Value) (x : Str) (st : Stmt) (f : Addr) (fd : FuncData) : Prop where
  g : mg x = some (.ref f)
  d : FunD K x x (defArgs st) (defBody st) (defScope st) [] [] f fd
section
variable {P : Program} {w : World} {K : PySem.W.Frag} {mg : Str → Option Value} {base : Heap} {G : Gd}
/-- .. for a def that computes F -/
structure OkF (P : Program) (w : World) (K : PySem.W.Frag) (mg : Str → Option Value) (base : Heap) (G : Gd) (x : Str) (k n : Nat) (ps : List Str) (f : Addr) (fd : FuncData) (F : List D → R D) : Prop where
  fn : FnOk P w K mg base (L2N.CX P w) k f fd ps (spD G K n F)
  g : mg x = some (.ref f)
  kp : PySem.W.keepIn K (.ref f) = true
  bn : Binds K fd ps []
structure OkO (P : Program) (w : World) (K : PySem.W.Frag) (mg : Str → Option Value) (base : Heap) (G : Gd) (x : Str) (k n : Nat) (ps : List Str) (f : Addr) (fd : FuncData) (F : List D → R (List D)) : Prop where
  fn : FnOk P w K mg base (L2N.CX P w) k f fd ps (spO G K n F)
  g : mg x = some (.ref f)
  kp : PySem.W.keepIn K (.ref f) = true
  bn : Binds K fd ps []
theorem OkO.f {x : Str} {k n : Nat} {ps : List Str} {f : Addr} {fd : FuncData} {F : List D → R (List D)} (h : OkO P w K mg base G x k n ps f fd F) : OkF P w K mg base G x k n ps f fd (fun ds => listR (F ds)) := ⟨spD_of_O h.fn, h.g, h.kp, h.bn⟩
theorem okF {x : Str} {st : Stmt} {f : Addr} {fd : FuncData} {N ps : List Str} {k n : Nat} {g : SB} {F : List D → R D} (Df : DefF K mg x st f fd) (S : FnScope N ps (defScope st)) (hn : ps.length = n) (hlen : ps.length ≤ N.length) (hF : F = runD N.length g)
    (hbn : ∀ (kV doc pm : Value) (an : Option Addr) (cdv ct : Value) (us : List Value), us.length = ps.length → bindArgs (PySem.W.fnOf x x (defArgs st) (defBody st) (defScope st) .none kV doc pm an cdv ct) ⟨us, []⟩ = pure (ps.zip us))
    (hb : ∀ (cdv : Value) (A : Around) (outer : List Env) (s : Shared) (H : Hp) (E : XK), Room k (A.deeper (envOfC x (defScope st) s.heap.objs.size f cdv)) →
      PSsD G E (cxOf (L2N.CX P w) P w K mg base N x (defScope st) f cdv A outer s H E) (defBody st) g) : OkF P w K mg base G x (k + 1) n ps f fd F := by
  subst hF
  subst hn
  refine ⟨?_, Df.g, Df.d.kp, Df.d.bindsN hbn⟩
  refine Df.d.ok S (fun vs H Q E h => h.1) fun cdv A outer s H vs Q E hr h => ⟨_, hb cdv A outer s H E hr, ?_⟩
  obtain ⟨hl, ht, ds, hd, ho⟩ := h
  refine ⟨H, _, _, _, start_rep (by omega) ht hd, ?_⟩
  unfold runD at ho
  cases hg : g (startD N.length ds) with
  | bad => rw [hg] at ho; exact ho.elim
  | err c => rw [hg] at ho; exact ho
  | ok fl =>
    rw [hg] at ho
    cases fl with
    | nx ρ => exact fun σ H' ad L r => ho .non H' r.exH .non
    | rt d => exact ho
    | ro ds => exact fun a vs H' e ha r => ho (.ref a) H' (e.trans (hid_sub.ex)) (.lst (.inl ha) ((hid_sub.ex (T := G.T)).rps r))
    | bk ρ => exact ho.elim
    | ct ρ => exact ho.elim
theorem okO {x : Str} {st : Stmt} {f : Addr} {fd : FuncData} {N ps : List Str} {k n : Nat} {g : SB} {F : List D → R (List D)} (Df : DefF K mg x st f fd) (S : FnScope N ps (defScope st)) (hn : ps.length = n) (hlen : ps.length ≤ N.length) (hF : F = runO N.length g)
    (hbn : ∀ (kV doc pm : Value) (an : Option Addr) (cdv ct : Value) (us : List Value), us.length = ps.length → bindArgs (PySem.W.fnOf x x (defArgs st) (defBody st) (defScope st) .none kV doc pm an cdv ct) ⟨us, []⟩ = pure (ps.zip us))
    (hb : ∀ (cdv : Value) (A : Around) (outer : List Env) (s : Shared) (H : Hp) (E : XK), Room k (A.deeper (envOfC x (defScope st) s.heap.objs.size f cdv)) →
      PSsD G E (cxOf (L2N.CX P w) P w K mg base N x (defScope st) f cdv A outer s H E) (defBody st) g) : OkO P w K mg base G x (k + 1) n ps f fd F := by
  subst hF
  subst hn
  refine ⟨?_, Df.g, Df.d.kp, Df.d.bindsN hbn⟩
  refine Df.d.ok S (fun vs H Q E h => h.1) fun cdv A outer s H vs Q E hr h => ⟨_, hb cdv A outer s H E hr, ?_⟩
  obtain ⟨hl, ht, ds, hd, ho⟩ := h
  refine ⟨H, _, _, _, start_rep (by omega) ht hd, ?_⟩
  unfold runO at ho
  cases hg : g (startD N.length ds) with
  | bad => rw [hg] at ho; exact ho.elim
  | err c => rw [hg] at ho; exact ho
  | ok fl =>
    rw [hg] at ho
    cases fl with
    | ro ds => exact ho
    | _ => exact ho.elim
end
section
variable {X : Cx} {G : Gd} {E : XK} {pos : Pos} {a b e tg : Expr} {es : List Expr} {f g h : DE → R D} {fs : DE → R (List D)}
theorem pd_con {x : Str} {d : D} (c : ConF X.K X.mg x d) (hg : Gl X x := by rfl) (hdb : (x == ("__debug__" : Str)) = false := by decide) : PD G E X (.Name x pos) (eC d) := by
  obtain ⟨v, u, hm, r, hd⟩ := c
  exact pd_glob hg hm r hd hdb
theorem pd_tabF {x : Str} {kvs : List (Str × D)} {p : Pos} (t : TabF X.K X.w X.mg x kvs) (hb : PD G E X b g) (hg : Gl X x := by rfl) (hp : PlainIx b := by exact (fun _ _ => rfl)) (hd : (x == ("__debug__" : Str)) = false := by decide) :
    PD G E X (.Subscript (.Name x p) b pos) (eUn (dTab kvs) g) := by
  obtain ⟨t, en, n, hm, D, hv⟩ := t
  exact pd_tab D hv hg hm hb hp hd
theorem pd_callF {x : Str} {k j n : Nat} {ps : List Str} {f : Addr} {fd : FuncData} {F : List D → R D} {p : Pos} (c : OkF X.prog X.w X.K X.mg X.base G x j n ps f fd F) (hr : Room k X.A) (hj : j ≤ k) (hx : Passes (L2N.CX X.prog X.w) X E) (ha : PDA G E X (e :: es) fs) (hn : ∀ ρ l, fs ρ = .ok l → l.length = n)
    (hg : Gl X x := by rfl) (hdb : (x == ("__debug__" : Str)) = false := by decide) (he : starEach (e :: es) X.env = (false, eval e X.env) :: starEach es X.env := by rfl) (hpl : (backTo pos (starEach es X.env)).any (·.1) = false := by rfl) : PD G E X (.Call (.Name x p) (e :: es) [] pos) (eCall F fs) :=
  pd_call c.fn (hr.mono hj) hg c.g c.kp c.bn hx ha hn hdb he hpl
theorem pd_callF0 {x : Str} {k j : Nat} {ps : List Str} {f : Addr} {fd : FuncData} {F : List D → R D} {p : Pos} (c : OkF X.prog X.w X.K X.mg X.base G x j 0 ps f fd F) (hr : Room k X.A) (hj : j ≤ k) (hx : Passes (L2N.CX X.prog X.w) X E)
    (hg : Gl X x := by rfl) (hdb : (x == ("__debug__" : Str)) = false := by decide) : PD G E X (.Call (.Name x p) [] [] pos) (eCall F aNil) :=
  pd_call0 c.fn (hr.mono hj) hg c.g c.kp c.bn hx hdb
theorem po_callF {x : Str} {k j n : Nat} {ps : List Str} {f : Addr} {fd : FuncData} {F : List D → R (List D)} {p : Pos} (c : OkO X.prog X.w X.K X.mg X.base G x j n ps f fd F) (hr : Room k X.A) (hj : j ≤ k) (hx : Passes (L2N.CX X.prog X.w) X E) (ha : PDA G E X (e :: es) fs) (hn : ∀ ρ l, fs ρ = .ok l → l.length = n)
    (hg : Gl X x := by rfl) (hdb : (x == ("__debug__" : Str)) = false := by decide) (he : starEach (e :: es) X.env = (false, eval e X.env) :: starEach es X.env := by rfl) (hpl : (backTo pos (starEach es X.env)).any (·.1) = false := by rfl) : PE X (.Call (.Name x p) (e :: es) [] pos) (tO G E X.K (eCallO F fs)) :=
  po_call c.fn (hr.mono hj) hg c.g c.kp c.bn hx ha hn hdb he hpl
theorem psd_raiseF {x : Str} {m : Str} {j : Nat} {p p2 p3 : Pos} {c : Exn} (q : ExcF X.K X.mg x (G.cl c)) (hc : X.calm = true) (tk : L2N.Takes X (fun cls d _ H => E cls d H)) (hg : Gl X x := by rfl) (hdb : (x == ("__debug__" : Str)) = false := by decide) :
    PSD G E X (.Raise (some (.Call (.Name x p) [.Constant (.str m) j p2] [] p3)) none pos) (sErr c) :=
  psd_raise hc tk (L2N.pmk_own PySem.F.excBase_ValueError q.q q.g q.kp (raises_own q.sb q.ty) hg hdb)
/-- a, b = x[e], x a list of the def's own -/
def sTgtIx (p : TP) (i : Nat) (S : List Nat) (f : DE → R D) : SB := fun ρ => match (ρ[i]? : Option Sl) with
  | some (.ow ds) => (f (vw S ρ)).bind fun k => match k with
    | .int k => match atI ds k with
      | some d => (p.bindS d ρ).bind fun ρ => .ok (.nx ρ)
      | none => .bad
    | _ => .bad
  | _ => .bad
theorem psd_tgtIx (S : List Nat) {p : TP} {i : Nat} {x : Str} {p1 p2 : Pos} (hv : PE X (.Name x p1) (tVar i)) (he : PD G E X e f) (hg : PGT X tg p) (hp : PlainIx e := by exact (fun _ _ => rfl)) (hs : swapsWithSole [tg] (.Subscript (.Name x p1) e p2) pos.line X.env = pure false := by rfl) (hw : swappedStores [tg] (.Subscript (.Name x p1) e p2) X.env = pure none := by rfl)
    (h1 : (assignEach [tg] X.env).map (·.2) = [assign tg X.env] := by rfl) : PSD G E X (.Assign [tg] (.Subscript (.Name x p1) e p2) pos) (sTgtIx p i S f) := by
  refine ps_imp (ps_asg (pe_ix ix_seq hv (px he S) hp) hg hs hw h1) ?_
  rintro Dn σ H ⟨B, ρ, ad, L, r, k⟩
  unfold sTgtIx at k
  split at k
  · rename_i ds hi
    obtain ⟨h1, vs, h2, h3⟩ := r.lst i ds hi
    refine ⟨_, h1, B, ρ, ad, L, r, ?_⟩
    cases hq : f (vw S ρ) with
    | bad => rw [hq] at k; exact k
    | err c => rw [hq] at k; exact k
    | ok d =>
      rw [hq] at k
      cases d with
      | int j =>
        intro v H' L2 r2 hv
        cases hv
        have hi2 : (th S (flatD (.int j)) ρ)[i]? = some (.ow ds) := hi
        obtain ⟨_, ws, q2, q3⟩ := r2.lst i ds hi2
        have k : OutS G E X.K B (match atI ds j with
          | some d => (p.bindS d ρ).bind fun ρ => R.ok (Fl.nx ρ)
          | none => .bad) Dn := k
        cases ha : atI ds j with
        | none => rw [ha] at k; exact k.elim
        | some d =>
          rw [ha] at k
          have k : OutS G E X.K B ((p.bindS d ρ).bind fun ρ => R.ok (Fl.nx ρ)) Dn := k
          obtain ⟨v, hv, hd⟩ := at_rp q3 ha
          refine .inl ⟨_, ws, j, v, rfl, rfl, .inl (.inl q2), hv, ?_⟩
          cases hb : p.bindS d ρ with
          | bad => rw [hb] at k; exact k.elim
          | err c => exact absurd hb (bindS_err p d _ c)
          | ok ρ' =>
            rw [hb] at k
            exact bindS_g p d σ _ ρ' L2 v _ r2 hd hb fun σ' L' r' _ => k σ' H' ad L' r'
      | _ => exact k.elim
  · exact k.elim
end
end DL
set_option Elab.async false
set_option linter.all false
set_option maxRecDepth 100000
set_option maxHeartbeats 4000000
/-! DL13: a list, a tuple or a text is walked. -/
namespace DL
open PySem PySem.Spec PyProof.Rows L2 RZ
section
variable {G : Gd} {E : XK} {X : Cx} {a b c : Expr} {f g h : DE → R D} {pos : Pos}
/-- one comparison, as a test -/
theorem pdt_c1 {op : CmpOp} {r : R2} {o : D → D → R D} (ho : OpR X (compareOp op) r) (hs : OkOp G E X.K r o) (ha : PD G E X a f) (hb : PD G E X b g) (hm : behindInMarks op b = false) : PDT G E X (.Compare a [op] [b] pos) (tBl (eOp o f g)) := by
  refine pt_imp (pt_cmpR ho ha (pe_bd hb) hm) ?_
  intro σ H Q h
  obtain ⟨ρ, hr, ho⟩ := h
  have ho := tBl_out (X := X) ho
  refine ⟨ρ, hr, (Out.bind (rel := Rp X.K) ho).mono ?_⟩
  rintro x H1 e1 - ⟨d1, hd1, _, hx, ho⟩
  refine ⟨ρ, hr.ext e1, (Out.bind (rel := Rp X.K) ho).mono ?_⟩
  rintro y H2 e2 - ⟨d2, hd2, _, hy, ho⟩ bd
  exact hs H2 x y d1 d2 _ bd (e2.rp hx) hy ho
/-- two of ints, as a test -/
theorem pdt_c2 {op op' : CmpOp} {p q : Int → Int → Bool} (ho : OpR X (compareOp op) (rI0 fun i j => .bl (p i j))) (ho' : OpR X (compareOp op') (rI0 fun i j => .bl (q i j))) (ha : PD G E X a f) (hb : PD G E X b g) (hc : PD G E X c h)
    (hm : lastMarks [op, op'] [b, c] = false := by with_unfolding_all rfl) : PDT G E X (.Compare a [op, op'] [b, c] pos) (tBl (eChain p q f g h)) := by
  refine pt_imp (pt_chain ho ho' ha hb hc hm) ?_
  intro σ H Q hq
  obtain ⟨ρ, hr, ho⟩ := hq
  have ho := tBl_out (X := X) ho
  refine ⟨ρ, hr, (Out.bind (rel := Rp X.K) ho).mono ?_⟩
  rintro x H1 e1 - ⟨d1, hd1, _, hx, ho⟩
  refine ⟨ρ, hr.ext e1, (Out.bind (rel := Rp X.K) ho).mono ?_⟩
  rintro y H2 e2 - ⟨d2, hd2, _, hy, ho⟩
  cases d1 with
  | int i =>
    cases d2 with
    | int j =>
      cases hx; cases hy
      refine ⟨i, j, rfl, rfl, p i j, rfl, ?_⟩
      have ho : Out G E (Rp X.K) H2 (if p i j = true then (h ρ).bind fun z => (match z with
        | .int k => R.ok (PyData.bool (q j k))
        | _ => .bad) else .ok (.bool false)) (fun x H1 => ∃ k, x = .bl k ∧ Q k H1) := ho
      cases hp : p i j with
      | true =>
        rw [hp, if_pos rfl] at ho
        rw [if_pos rfl]
        refine ⟨ρ, (hr.ext e1).ext e2, (Out.bind (rel := Rp X.K) ho).mono ?_⟩
        rintro z H3 e3 - ⟨d3, hd3, _, hz, ho⟩
        cases d3 with
        | int k =>
          cases hz
          exact ⟨_, _, rfl, rfl, ho _ H3 (Ex.refl H3) (.bl _)⟩
        | _ => exact ho.elim
      | false =>
        rw [hp, if_neg Bool.false_ne_true] at ho
        rw [if_neg Bool.false_ne_true]
        exact ho _ H2 (Ex.refl H2) (.bl false)
    | _ => exact ho.elim
  | _ => exact ho.elim
end
section
variable {G : Gd} {E : XK} {X : Cx} {tg e : Expr} {f : DE → R D}
def itemsD : D → R (List D)
  | .list ds => .ok ds
  | .tuple ds => .ok ds
  | .str z => if z.length ≤ 100000 then .ok (chD z) else .bad
  | _ => .bad
def iAny (f : DE → R D) : DE → R (List D) := fun ρ => (f ρ).bind itemsD
theorem pdi_any (h : PD G E X e f) : PDI G E X tg e (iAny f) := ⟨fun pins s σ H Q I q => by
  obtain ⟨ρ, hr, ho⟩ := q
  unfold iAny at ho
  cases hf : f ρ with
  | bad => rw [hf] at ho; exact ho.elim
  | err c =>
    rw [hf] at ho
    refine (pdi_list (tg := tg) h).run pins s σ H Q I ⟨ρ, hr, ?_⟩
    unfold iLst
    rw [hf]
    exact ho
  | ok d =>
    rw [hf] at ho
    cases d with
    | list ds =>
      refine (pdi_list (tg := tg) h).run pins s σ H Q I ⟨ρ, hr, ?_⟩
      unfold iLst
      rw [hf]
      exact ho
    | tuple ds =>
      refine (pdi_tup (tg := tg) h).run pins s σ H Q I ⟨ρ, hr, ?_⟩
      unfold iTpl
      rw [hf]
      exact ho
    | str z =>
      refine (pdi_str (tg := tg) h).run pins s σ H Q I ⟨ρ, hr, ?_⟩
      unfold iChr
      rw [hf]
      exact ho
    | _ => exact ho.elim⟩
end
end DL
set_option Elab.async false
set_option linter.all false
set_option maxRecDepth 100000
set_option maxHeartbeats 4000000
/-! DL14: readings, computed. -/
namespace DL
open PySem PySem.Spec PyProof.Rows L2 RZ
/-! ### the readings as a machine: what stands ahead is computed first -/
def seqK (h : SB) : R Fl → R Fl
  | .ok (.nx ρ) => h ρ
  | r => r
def ifK (g h : SB) (ρ : SE) : R Bool → R Fl
  | .ok true => g ρ
  | .ok false => h ρ
  | .err c => .err c
  | .bad => .bad
def kD {α β : Type} (k : α → R β) : R α → R β
  | .ok a => k a
  | .err c => .err c
  | .bad => .bad
def asgK (i : Nat) (S : List Nat) (ρ : SE) (d : D) : R Fl := .ok (.nx ((th S (flatD d) ρ).set i (.fz d)))
def ownK (i : Nat) (S : List Nat) (ρ : SE) (ds : List D) : R Fl := .ok (.nx ((th S (ds.all flatD) ρ).set i (.ow ds)))
def lcK (i : Nat) (S : List Nat) (ρ : SE) (d : D) : R Fl := .ok (.nx ((frz S ρ).set i (.fz d)))
def exK (S : List Nat) (ρ : SE) (d : D) : R Fl := .ok (.nx (th S (flatD d) ρ))
def rtK (d : D) : R Fl := .ok (.rt d)
def opK2 (o : D → D → R D) (a b : D) : R D := o a b
def opK (o : D → D → R D) (g : DE → R D) (ρ : DE) (a : D) : R D := kD (opK2 o a) (g ρ)
def consK2 (a : D) (l : List D) : R (List D) := .ok (a :: l)
def consK (g : DE → R (List D)) (ρ : DE) (a : D) : R (List D) := kD (consK2 a) (g ρ)
def tupK (l : List D) : R D := .ok (.tuple l)
def lstK (l : List D) : R D := .ok (.list l)
def boolK (d : D) : R Bool := match d with
  | .bool b => .ok b
  | _ => .bad
def eifK (f g : DE → R D) (ρ : DE) : R Bool → R D
  | .ok true => f ρ
  | .ok false => g ρ
  | .err c => .err c
  | .bad => .bad
def ntK (b : Bool) : R Bool := .ok (!b)
def anK (d : DE → R Bool) (ρ : DE) : R Bool → R Bool
  | .ok true => d ρ
  | r => r
def orK (d : DE → R Bool) (ρ : DE) : R Bool → R Bool
  | .ok false => d ρ
  | r => r
def vanK (g : DE → R D) (ρ : DE) : R D → R D
  | .ok (.bool true) => g ρ
  | .ok (.bool false) => .ok (.bool false)
  | .ok _ => .bad
  | .err c => .err c
  | .bad => .bad
def vorK (g : DE → R D) (ρ : DE) : R D → R D
  | .ok (.bool false) => g ρ
  | .ok (.bool true) => .ok (.bool true)
  | .ok _ => .bad
  | .err c => .err c
  | .bad => .bad
def vntK (d : D) : R D := match d with
  | .bool b => .ok (.bool (!b))
  | _ => .bad
def chK2 (q : Int → Int → Bool) (j : Int) (d : D) : R D := match d with
  | .int k => .ok (.bool (q j k))
  | _ => .bad
def chK1 (p q : Int → Int → Bool) (h : DE → R D) (ρ : DE) (i j : Int) : Bool → R D
  | true => kD (chK2 q j) (h ρ)
  | false => .ok (.bool false)
def chKb (p q : Int → Int → Bool) (h : DE → R D) (ρ : DE) (x y : D) : R D := match x, y with
  | .int i, .int j => chK1 p q h ρ i j (p i j)
  | _, _ => .bad
def chKa (p q : Int → Int → Bool) (g h : DE → R D) (ρ : DE) (x : D) : R D := kD (chKb p q h ρ x) (g ρ)
def parK (i j : Nat) (S : List Nat) (ρ : SE) (l : List D) : R Fl := match l with
  | [d, e] => .ok (.nx (((th S (l.all flatD) ρ).set i (.fz d)).set j (.fz e)))
  | _ => .bad
def nxK (ρ : SE) : R Fl := .ok (.nx ρ)
def tgK (p : TP) (S : List Nat) (ρ : SE) (d : D) : R Fl := kD nxK (p.bindS d (th S (flatD d) ρ))
def appK (i : Nat) (S : List Nat) (ρ : SE) (ds : List D) (d : D) : R Fl := if ds.length < 100000 then .ok (.nx ((th S (flatD d) ρ).set i (.ow (ds ++ [d])))) else .bad
def forK (p : TP) (g : SB) (ρ : SE) (items : List D) : R Fl := forL p g items ρ
def idxK (ds : List D) (d : D) : R D := dIndex ds d
def idxKa (g : DE → R D) (ρ : DE) (a : D) : R D := match a with
  | .list ds => kD (idxK ds) (g ρ)
  | _ => .bad
def someK (d : D) : R (Option Int) := match d with
  | .int i => .ok (some i)
  | _ => .bad
def slK2 (d : D) (l : Option Int) (u : Option Int) : R D := dSl d l u
def slK1 (hi : DE → R (Option Int)) (ρ : DE) (d : D) (l : Option Int) : R D := kD (slK2 d l) (hi ρ)
def slK (lo hi : DE → R (Option Int)) (ρ : DE) (d : D) : R D := kD (slK1 hi ρ d) (lo ρ)
def getK2 (es : List (D × D)) (k x : D) : R D := match k with
  | .str z => .ok ((getD? es z).getD x)
  | _ => .bad
def getK1 (h : DE → R D) (ρ : DE) (es : List (D × D)) (k : D) : R D := kD (getK2 es k) (h ρ)
def getK (g h : DE → R D) (ρ : DE) (d : D) : R D := match d with
  | .dict es => if isFnE es = true then .bad else kD (getK1 h ρ es) (g ρ)
  | _ => .bad
def runK (fl : Fl) : R D := match fl with
  | .rt d => .ok d
  | .ro ds => .ok (.list ds)
  | .nx _ => .ok .none
  | _ => .bad
def runOK (fl : Fl) : R (List D) := match fl with
  | .ro ds => .ok ds
  | _ => .bad
section
variable {α β : Type} {f g h : DE → R D} {fs : DE → R (List D)} {c d : DE → R Bool} {G H : SB} {ρ : SE} {r : DE} {i j : Nat} {S : List Nat} {o : D → D → R D} {u : D → R D} {w : List D → R D} {p q : Int → Int → Bool}
theorem bind_k (x : R α) (k : α → R β) : x.bind k = kD k x := by
  cases x <;> rfl
theorem kD_ok (k : α → R β) (a : α) : kD k (.ok a) = k a := rfl
theorem kD_err (k : α → R β) (c : Exn) : kD k (.err c) = .err c := rfl
theorem seq_a : sSeq G H ρ = seqK H (G ρ) := by
  unfold sSeq seqK
  cases G ρ with
  | ok fl => cases fl <;> rfl
  | _ => rfl
theorem seq_nx : seqK H (.ok (.nx ρ)) = H ρ := rfl
theorem seq_rt (x : D) : seqK H (.ok (.rt x)) = .ok (.rt x) := rfl
theorem seq_ct : seqK H (.ok (.ct ρ)) = .ok (.ct ρ) := rfl
theorem seq_bk : seqK H (.ok (.bk ρ)) = .ok (.bk ρ) := rfl
theorem seq_err (e : Exn) : seqK H (.err e) = .err e := rfl
theorem if_a : sIf S c G H ρ = ifK G H ρ (c (vw S ρ)) := by
  unfold sIf ifK
  cases c (vw S ρ) with
  | ok b => cases b <;> rfl
  | _ => rfl
theorem if_t : ifK G H ρ (.ok true) = G ρ := rfl
theorem if_f : ifK G H ρ (.ok false) = H ρ := rfl
theorem asg_a : sAsg i S f ρ = kD (asgK i S ρ) (f (vw S ρ)) := bind_k _ _
theorem asg_k (x : D) : asgK i S ρ x = .ok (.nx ((th S (flatD x) ρ).set i (.fz x))) := rfl
theorem own_a : sOwn i S fs ρ = kD (ownK i S ρ) (fs (vw S ρ)) := bind_k _ _
theorem own_k (x : List D) : ownK i S ρ x = .ok (.nx ((th S (x.all flatD) ρ).set i (.ow x))) := rfl
theorem lc_a : sLc i S f ρ = kD (lcK i S ρ) (f (vw S ρ)) := bind_k _ _
theorem lc_k (x : D) : lcK i S ρ x = .ok (.nx ((frz S ρ).set i (.fz x))) := rfl
theorem ex_a : sExpr S f ρ = kD (exK S ρ) (f (vw S ρ)) := bind_k _ _
theorem ex_k (x : D) : exK S ρ x = .ok (.nx (th S (flatD x) ρ)) := rfl
theorem rt_a : sRet S f ρ = kD rtK (f (vw S ρ)) := bind_k _ _
theorem rt_k (x : D) : rtK x = .ok (.rt x) := rfl
theorem op_a : eOp o f g r = kD (opK o g r) (f r) := by
  unfold eOp
  rw [bind_k]
  congr 1
  funext a
  exact bind_k _ _
theorem op_k (a : D) : opK o g r a = kD (opK2 o a) (g r) := rfl
theorem op_k2 (a b : D) : opK2 o a b = o a b := rfl
theorem un_a : eUn u f r = kD u (f r) := bind_k _ _
theorem cons_a : aCons f fs r = kD (consK fs r) (f r) := by
  unfold aCons
  rw [bind_k]
  congr 1
  funext a
  exact bind_k _ _
theorem cons_k (a : D) : consK fs r a = kD (consK2 a) (fs r) := rfl
theorem cons_k2 (a : D) (l : List D) : consK2 a l = .ok (a :: l) := rfl
theorem nil_a : aNil r = .ok [] := rfl
theorem c_a (x : D) : eC x r = .ok x := rfl
theorem tup_a : eTup fs r = kD tupK (fs r) := bind_k _ _
theorem tup_k (l : List D) : tupK l = .ok (.tuple l) := rfl
theorem lst_a : eLst fs r = kD lstK (fs r) := bind_k _ _
theorem lst_k (l : List D) : lstK l = .ok (.list l) := rfl
theorem bl_a : tBl f r = kD boolK (f r) := bind_k _ _
theorem bl_k (b : Bool) : boolK (.bool b) = .ok b := rfl
theorem eif_a : eIf c f g r = eifK f g r (c r) := by
  unfold eIf eifK
  cases c r with
  | ok b => cases b <;> rfl
  | _ => rfl
theorem eif_t : eifK f g r (.ok true) = f r := rfl
theorem eif_f : eifK f g r (.ok false) = g r := rfl
theorem nt_a : tNt c r = kD ntK (c r) := bind_k _ _
theorem nt_k (b : Bool) : ntK b = .ok (!b) := rfl
theorem an_a : tAn c d r = anK d r (c r) := by
  unfold tAn anK
  cases c r with
  | ok b => cases b <;> rfl
  | _ => rfl
theorem an_t : anK d r (.ok true) = d r := rfl
theorem an_f : anK d r (.ok false) = .ok false := rfl
theorem or_a : tOrr c d r = orK d r (c r) := by
  unfold tOrr orK
  cases c r with
  | ok b => cases b <;> rfl
  | _ => rfl
theorem or_t : orK d r (.ok true) = .ok true := rfl
theorem or_f : orK d r (.ok false) = d r := rfl
theorem van_a : vAn f g r = vanK g r (f r) := by
  unfold vAn vanK
  cases f r with
  | ok x =>
    cases x with
    | bool b => cases b <;> rfl
    | _ => rfl
  | _ => rfl
theorem van_t : vanK g r (.ok (.bool true)) = g r := rfl
theorem van_f : vanK g r (.ok (.bool false)) = .ok (.bool false) := rfl
theorem vor_a : vOr f g r = vorK g r (f r) := by
  unfold vOr vorK
  cases f r with
  | ok x =>
    cases x with
    | bool b => cases b <;> rfl
    | _ => rfl
  | _ => rfl
theorem vor_t : vorK g r (.ok (.bool true)) = .ok (.bool true) := rfl
theorem vor_f : vorK g r (.ok (.bool false)) = g r := rfl
theorem vnt_a : vNt f r = kD vntK (f r) := by
  unfold vNt
  rw [bind_k]
  congr 1
theorem vnt_k (b : Bool) : vntK (.bool b) = .ok (.bool (!b)) := rfl
theorem ch_a : eChain p q f g h r = kD (chKa p q g h r) (f r) := by
  unfold eChain
  rw [bind_k]
  congr 1
  funext x
  rw [bind_k]
  unfold chKa
  congr 1
  funext y
  unfold chKb
  cases x with
  | int i =>
    cases y with
    | int j =>
      show (if p i j = true then _ else _) = chK1 p q h r i j (p i j)
      cases p i j with
      | true => exact bind_k _ _
      | false => rfl
    | _ => rfl
  | _ => rfl
theorem ch_ka (x : D) : chKa p q g h r x = kD (chKb p q h r x) (g r) := rfl
theorem ch_kb (i j : Int) : chKb p q h r (.int i) (.int j) = chK1 p q h r i j (p i j) := rfl
theorem ch_t (i j : Int) : chK1 p q h r i j true = kD (chK2 q j) (h r) := rfl
theorem ch_f (i j : Int) : chK1 p q h r i j false = .ok (.bool false) := rfl
theorem ch_k2 (j k : Int) : chK2 q j (.int k) = .ok (.bool (q j k)) := rfl
theorem par_a : sPar i j S fs ρ = kD (parK i j S ρ) (fs (vw S ρ)) := bind_k _ _
theorem par_k (x y : D) : parK i j S ρ [x, y] = .ok (.nx (((th S ([x, y].all flatD) ρ).set i (.fz x)).set j (.fz y))) := rfl
theorem tg_a {t : TP} : sTgt t S f ρ = kD (tgK t S ρ) (f (vw S ρ)) := by
  unfold sTgt
  rw [bind_k]
  congr 1
  funext x
  exact bind_k _ _
theorem tg_k {t : TP} (x : D) : tgK t S ρ x = kD nxK (t.bindS x (th S (flatD x) ρ)) := rfl
theorem nx_k : nxK ρ = .ok (.nx ρ) := rfl
theorem b_nm (x : D) : TP.bindS (.nm i) x ρ = .ok (ρ.set i (.fz x)) := rfl
theorem b_pr {a b : TP} (x y : D) : TP.bindS (.pr a b) (.tuple [x, y]) ρ = kD (b.bindS y) (a.bindS x ρ) := bind_k _ _
def trK (b c : TP) (y z : D) (ρ : SE) : R SE := kD (c.bindS z) (b.bindS y ρ)
theorem b_tr {a b c : TP} (x y z : D) : TP.bindS (.tr a b c) (.tuple [x, y, z]) ρ = kD (trK b c y z) (a.bindS x ρ) := by
  show (a.bindS x ρ).bind _ = _
  rw [bind_k]
  congr 1
  funext s
  exact bind_k _ _
theorem tr_k {b c : TP} (y z : D) : trK b c y z ρ = kD (c.bindS z) (b.bindS y ρ) := rfl
theorem e_nm (x : D) : TP.bindE (.nm i) x r = .ok (r.set i (some x)) := rfl
theorem e_pr {a b : TP} (x y : D) : TP.bindE (.pr a b) (.tuple [x, y]) r = kD (b.bindE y) (a.bindE x r) := bind_k _ _
theorem app_a {ds : List D} (hi : (ρ[i]? : Option Sl) = some (.ow ds)) : sApp i S f ρ = kD (appK i S ρ ds) (f (vw S ρ)) := by
  unfold sApp
  rw [hi]
  exact bind_k _ _
theorem app_k {ds : List D} (hl : ds.length < 100000) (x : D) : appK i S ρ ds x = .ok (.nx ((th S (flatD x) ρ).set i (.ow (ds ++ [x])))) := if_pos hl
theorem for_a {t : TP} {fi : DE → R (List D)} : sFor S fi t G ρ = kD (forK t G (frz S ρ)) (fi (vw S ρ)) := bind_k _ _
theorem for_k {t : TP} (l : List D) : forK t G ρ l = forL t G l ρ := rfl
theorem call_a : eCall w fs r = kD w (fs r) := bind_k _ _
theorem any_a : iAny f r = kD itemsD (f r) := bind_k _ _
theorem items_l (l : List D) : itemsD (.list l) = .ok l := rfl
theorem items_t (l : List D) : itemsD (.tuple l) = .ok l := rfl
theorem idx_a : eIndex f g r = kD (idxKa g r) (f r) := by
  unfold eIndex
  rw [bind_k]
  congr 1
  funext x
  cases x with
  | list ds => exact bind_k _ _
  | _ => rfl
theorem idx_k (l : List D) : idxKa g r (.list l) = kD (idxK l) (g r) := rfl
theorem idx_k2 (l : List D) (x : D) : idxK l x = dIndex l x := rfl
theorem no_a : oNone r = .ok none := rfl
theorem some_a : oSome f r = kD someK (f r) := bind_k _ _
theorem some_k (k : Int) : someK (.int k) = .ok (some k) := rfl
theorem sl_a {lo hi : DE → R (Option Int)} : eSl f lo hi r = kD (slK lo hi r) (f r) := by
  unfold eSl
  rw [bind_k]
  congr 1
  funext x
  rw [bind_k]
  unfold slK
  congr 1
  funext l
  exact bind_k _ _
theorem sl_k {lo hi : DE → R (Option Int)} (x : D) : slK lo hi r x = kD (slK1 hi r x) (lo r) := rfl
theorem sl_k1 {hi : DE → R (Option Int)} (x : D) (l : Option Int) : slK1 hi r x l = kD (slK2 x l) (hi r) := rfl
theorem sl_k2 (x : D) (l m : Option Int) : slK2 x l m = dSl x l m := rfl
theorem get_a : eGet f g h r = kD (getK g h r) (f r) := by
  unfold eGet
  rw [bind_k]
  congr 1
  funext x
  cases x with
  | dict es =>
    show (if isFnE es = true then R.bad else (g r).bind _) = if isFnE es = true then R.bad else kD (getK1 h r es) (g r)
    congr 1
    rw [bind_k]
    congr 1
    funext k
    exact bind_k _ _
  | _ => rfl
theorem get_k (es : List (D × D)) (hn : isFnE es = false) : getK g h r (.dict es) = kD (getK1 h r es) (g r) := if_neg (by rw [hn]; exact Bool.false_ne_true)
theorem get_k1 (es : List (D × D)) (k : D) : getK1 h r es k = kD (getK2 es k) (h r) := rfl
theorem get_k2 (es : List (D × D)) (z : Str) (x : D) : getK2 es (.str z) x = .ok ((getD? es z).getD x) := rfl
theorem run_a (n : Nat) (l : List D) : runD n G l = kD runK (G (startD n l)) := bind_k _ _
theorem run_rt (x : D) : runK (.rt x) = .ok x := rfl
theorem run_ro (l : List D) : runK (.ro l) = .ok (.list l) := rfl
theorem run_nx : runK (.nx ρ) = .ok .none := rfl
theorem runo_a (n : Nat) (l : List D) : runO n G l = kD runOK (G (startD n l)) := bind_k _ _
theorem runo_k (l : List D) : runOK (.ro l) = .ok l := rfl
theorem v0 (x : D) : eVar 0 (some x :: r) = .ok x := rfl
theorem v1 (x : Option D) : eVar (i + 1) (x :: r) = eVar i r := rfl
theorem next_a : sNext ρ = .ok (.nx ρ) := rfl
theorem err_a (e : Exn) : sErr e ρ = .err e := rfl
end
def unS : Sl → Option D
  | .fz d => some d
  | _ => none
theorem unS_fz (d : D) : unS (.fz d) = some d := rfl
theorem unS_no : unS .no = none := rfl
theorem unS_ow (ds : List D) : unS (.ow ds) = none := rfl
theorem frS_nil {i : Nat} (s : Sl) : frS [] i s = s := by
  cases s <;> rfl
theorem vwS_nil {i : Nat} (s : Sl) : vwS [] i s = unS s := by
  cases s <;> rfl
theorem mapIdx_id {α β : Type} (f : α → β) : ∀ l : List α, l.mapIdx (fun _ s => f s) = l.map f := by
  intro l
  refine List.ext_getElem? fun i => ?_
  rw [List.getElem?_mapIdx, List.getElem?_map]
theorem vw_nil (ρ : SE) : vw [] ρ = ρ.map unS := by
  unfold vw
  rw [show (vwS [] : Nat → Sl → Option D) = fun _ s => unS s from funext fun i => funext fun s => vwS_nil s, mapIdx_id]
theorem frz_nil (ρ : SE) : frz [] ρ = ρ := by
  unfold frz
  rw [show (frS [] : Nat → Sl → Sl) = fun _ s => id s from funext fun i => funext fun s => frS_nil s, mapIdx_id]
  simp
theorem th_nil (b : Bool) (ρ : SE) : th [] b ρ = ρ := by
  unfold th
  rw [frz_nil]
  simp
theorem at0 {α : Type} (a : α) (l : List α) : atI (a :: l) 0 = some a := by
  simp [atI, ixN]
theorem at1 {α : Type} (a b : α) (l : List α) : atI (a :: b :: l) 1 = some b := by
  have : (1 : Int) < ((a :: b :: l).length : Nat) := by simp; omega
  simp only [atI, ixN]
  rw [if_pos (by omega), if_pos this]
  rfl
theorem at2 {α : Type} (a b c : α) (l : List α) : atI (a :: b :: c :: l) 2 = some c := by
  have : (2 : Int) < ((a :: b :: c :: l).length : Nat) := by simp; omega
  simp only [atI, ixN]
  rw [if_pos (by omega), if_pos this]
  rfl
theorem at3 {α : Type} (a b c d : α) (l : List α) : atI (a :: b :: c :: d :: l) 3 = some d := by
  have : (3 : Int) < ((a :: b :: c :: d :: l).length : Nat) := by simp; omega
  simp only [atI, ixN]
  rw [if_pos (by omega), if_pos this]
  rfl
theorem atN {α : Type} {l : List α} {i : Nat} {a : α} (h : l[i]? = some a) : atI l (i : Int) = some a := by
  obtain ⟨hl, _⟩ := List.getElem?_eq_some_iff.mp h
  simp only [atI, ixN]
  rw [if_pos (by omega), if_pos (by omega)]
  simpa using h
theorem dIx_t {l : List D} {i : Int} {d : D} (h : atI l i = some d) : dIx (.tuple l) (.int i) = .ok d := by
  unfold dIx
  simp only [h]
theorem dIx_l {l : List D} {i : Int} {d : D} (h : atI l i = some d) : dIx (.list l) (.int i) = .ok d := by
  unfold dIx
  simp only [h]
theorem tx0 (a : D) (l : List D) : dIx (.tuple (a :: l)) (.int 0) = .ok a := dIx_t (at0 a l)
theorem tx1 (a b : D) (l : List D) : dIx (.tuple (a :: b :: l)) (.int 1) = .ok b := dIx_t (at1 a b l)
theorem tx2 (a b c : D) (l : List D) : dIx (.tuple (a :: b :: c :: l)) (.int 2) = .ok c := dIx_t (at2 a b c l)
theorem tx3 (a b c d : D) (l : List D) : dIx (.tuple (a :: b :: c :: d :: l)) (.int 3) = .ok d := dIx_t (at3 a b c d l)
theorem lx0 (a : D) (l : List D) : dIx (.list (a :: l)) (.int 0) = .ok a := dIx_l (at0 a l)
theorem lx1 (a b : D) (l : List D) : dIx (.list (a :: b :: l)) (.int 1) = .ok b := dIx_l (at1 a b l)
theorem dAdd_i (i j : Int) : dAdd (.int i) (.int j) = .ok (.int (i + j)) := rfl
theorem dSub_i (i j : Int) : dSub (.int i) (.int j) = .ok (.int (i - j)) := rfl
theorem dMul_i {i j : Int} (h : MulOk i j) : dMul (.int i) (.int j) = .ok (.int (i * j)) := by
  unfold dMul
  simp only [h, if_true]
theorem dMod_i {i j : Int} (h : 0 < j) : dMod (.int i) (.int j) = .ok (.int (i % j)) := by
  unfold dMod
  simp only [h, if_true]
theorem dFdiv_i {i j : Int} (h : 0 < j ∧ j.natAbs < 2 ^ 1000) : dFdiv (.int i) (.int j) = .ok (.int (i / j)) := by
  unfold dFdiv
  simp only [h, and_self, if_true]
theorem dOrd_i (p : Int → Int → Bool) (i j : Int) : dOrd p (.int i) (.int j) = .ok (.bool (p i j)) := rfl
theorem bMin2_i (i j : Int) : bMin2 [.int i, .int j] = .ok (.int (if j < i then j else i)) := rfl
theorem bMax2_i (i j : Int) : bMax2 [.int i, .int j] = .ok (.int (if j > i then j else i)) := rfl
theorem small_mul {i j : Int} (h : -1000000 ≤ j ∧ j ≤ 1000000) : MulOk i j := .inl (.inr ⟨by omega, by omega⟩)
theorem small_mulL {i j : Int} (h : -1000000 ≤ i ∧ i ≤ 1000000) : MulOk i j := .inl (.inl ⟨by omega, by omega⟩)
theorem shp_int (i : Int) : SeqAt.shaped (.int i) = true := by
  simp [SeqAt.shaped, PyData.canLay0, PyData.depth]
theorem shp_str {x : Str} (h : PyData.strOk x = true) : SeqAt.shaped (.str x) = true := by
  simp [SeqAt.shaped, PyData.canLay0, PyData.depth, h]
theorem eqS {x y : Str} (hx : PyData.strOk x = true) (hy : PyData.strOk y = true) : dEq (.str x) (.str y) = .ok (.bool (x == y)) := by
  unfold dEq
  rw [if_pos ⟨shp_str hx, shp_str hy⟩]
  simp [PyData.eqv]
theorem eqI (i j : Int) : dEq (.int i) (.int j) = .ok (.bool (i == j)) := by
  unfold dEq
  rw [if_pos ⟨shp_int i, shp_int j⟩]
  simp [PyData.eqv]

/-! ### comprehensions, what is walked -/
def cK3 (ρ : DE) (p : TP) (ft : DE → R Bool) (fe : DE → R D) (rest : List D) (y : D) : R (List D) := kD (consK2 y) (compL ρ p ft fe rest)
def cK2 (ρ : DE) (p : TP) (ft : DE → R Bool) (fe : DE → R D) (rest : List D) (ρ1 : DE) : R Bool → R (List D)
  | .ok true => kD (cK3 ρ p ft fe rest) (fe ρ1)
  | .ok false => compL ρ p ft fe rest
  | .err c => .err c
  | .bad => .bad
def cK1 (ρ : DE) (p : TP) (ft : DE → R Bool) (fe : DE → R D) (rest : List D) (ρ1 : DE) : R (List D) := cK2 ρ p ft fe rest ρ1 (ft ρ1)
def cK0 (vs : List Nat) (p : TP) (ft : DE → R Bool) (fe : DE → R D) (r : DE) (items : List D) : R D := kD lstK (compL (wipeE r vs) p ft fe items).pure?
def enF : Int → List D → List D
  | _, [] => []
  | k, d :: l => .tuple [.int k, d] :: enF (k + 1) l
def enK (l : List D) : R (List D) := match l with
  | [.list ds] => .ok (enD ds)
  | _ => .bad
def zpF : List D → List D → List D
  | a :: l, b :: m => .tuple [a, b] :: zpF l m
  | _, _ => []
def zpK (l : List D) : R (List D) := match l with
  | [.list ds, .list es] => .ok (zpD ds es)
  | [.tuple ds, .tuple es] => .ok (zpD ds es)
  | [.tuple ds, .list es] => .ok (zpD ds es)
  | _ => .bad
def rg1K (l : List D) : R (List D) := match l with
  | [.int j] => if -100000 ≤ j ∧ j ≤ 100000 then .ok (rgD 0 j.toNat) else .bad
  | _ => .bad
def rg2K (l : List D) : R (List D) := match l with
  | [.int i, .int j] => if (-100000 ≤ i ∧ i ≤ 100000) ∧ -100000 ≤ j ∧ j ≤ 100000 then .ok (rgD i (j - i).toNat) else .bad
  | _ => .bad
theorem enF_eq : ∀ (ds : List D) (k : Int), enF k ds = ds.mapIdx fun i d => PyData.tuple [.int (k + (i : Nat)), d]
  | [], k => rfl
  | d :: ds, k => by
    have ih := enF_eq ds (k + 1)
    rw [List.mapIdx_cons]
    show PyData.tuple [.int k, d] :: enF (k + 1) ds = _
    rw [ih]
    have e : (fun (i : Nat) (x : D) => PyData.tuple [.int (k + 1 + (i : Nat)), x]) = fun (i : Nat) (x : D) => PyData.tuple [.int (k + ((i + 1 : Nat) : Int)), x] := by
      funext i x
      rw [show k + 1 + (i : Int) = k + ((i + 1 : Nat) : Int) by omega]
    rw [e]
    rw [show k + ((0 : Nat) : Int) = k by omega]
theorem enD_eq (ds : List D) : enD ds = enF 0 ds := by
  rw [enF_eq ds 0]
  unfold enD
  have e : (fun (i : Nat) (d : D) => PyData.tuple [.int (i : Nat), d]) = fun (i : Nat) (d : D) => PyData.tuple [.int (0 + (i : Nat)), d] := by
    funext i d
    rw [show (0 : Int) + (i : Int) = (i : Int) by omega]
  rw [e]
theorem zpD_eq : ∀ (ds es : List D), zpD ds es = zpF ds es := by
  intro ds
  induction ds with
  | nil => intro es; simp [zpD, zpF]
  | cons d ds ih =>
    intro es
    cases es with
    | nil => simp [zpD, zpF]
    | cons e es =>
      have := ih es
      simp only [zpD] at this ⊢
      simp [zpF, this]
section
variable {f g h : DE → R D} {fs : DE → R (List D)} {c d : DE → R Bool} {ρ : SE} {r r1 : DE} {p : TP} {rest : List D} {vs : List Nat}
theorem comp_a {fi : DE → R (List D)} : eComp vs fi p c f r = kD (cK0 vs p c f r) (fi r) := by
  unfold eComp
  rw [bind_k]
  congr 1
  funext items
  unfold cK0
  exact bind_k _ _
theorem comp_k (items : List D) : cK0 vs p c f r items = kD lstK (compL (wipeE r vs) p c f items).pure? := rfl
theorem comp_nil : compL r p c f [] = .ok [] := rfl
theorem comp_cons (x : D) : compL r p c f (x :: rest) = kD (cK1 r p c f rest) (p.bindE x r) := by
  show (p.bindE x r).bind _ = _
  rw [bind_k]
  congr 1
  funext ρ1
  unfold cK1 cK2
  cases c ρ1 with
  | ok b =>
    cases b with
    | true =>
      show (f ρ1).bind _ = _
      rw [bind_k]
      congr 1
      funext y
      exact bind_k _ _
    | false => rfl
  | _ => rfl
theorem comp_k1 : cK1 r p c f rest r1 = cK2 r p c f rest r1 (c r1) := rfl
theorem comp_t : cK2 r p c f rest r1 (.ok true) = kD (cK3 r p c f rest) (f r1) := rfl
theorem comp_f : cK2 r p c f rest r1 (.ok false) = compL r p c f rest := rfl
theorem comp_k3 (y : D) : cK3 r p c f rest y = kD (consK2 y) (compL r p c f rest) := rfl
theorem comp_tt : tTrue r = .ok true := rfl
theorem pure_ok {α : Type} (a : α) : (R.ok a).pure? = .ok a := rfl
theorem wipe_nil : wipeE r [] = r := rfl
theorem wipe_cons (v : Nat) : wipeE r (v :: vs) = (wipeE r vs).set v none := rfl
theorem en_a : iEn fs r = kD enK (fs r) := bind_k _ _
theorem en_k (ds : List D) : enK [.list ds] = .ok (enF 0 ds) := by
  rw [← enD_eq]
  rfl
theorem enF_nil (k : Int) : enF k [] = [] := rfl
theorem enF_cons (k : Int) (x : D) (l : List D) : enF k (x :: l) = .tuple [.int k, x] :: enF (k + 1) l := rfl
theorem zp_a : iZp fs r = kD zpK (fs r) := bind_k _ _
theorem zp_l (ds es : List D) : zpK [.list ds, .list es] = .ok (zpF ds es) := by
  rw [← zpD_eq]
  rfl
theorem zp_t (ds es : List D) : zpK [.tuple ds, .tuple es] = .ok (zpF ds es) := by
  rw [← zpD_eq]
  rfl
theorem zp_m (ds es : List D) : zpK [.tuple ds, .list es] = .ok (zpF ds es) := by
  rw [← zpD_eq]
  rfl
theorem zpF_cons (a b : D) (l m : List D) : zpF (a :: l) (b :: m) = .tuple [a, b] :: zpF l m := rfl
theorem zpF_nil (l : List D) : zpF [] l = [] := rfl
theorem rg1_a : iRg1 fs r = kD rg1K (fs r) := bind_k _ _
theorem rg2_a : iRg2 fs r = kD rg2K (fs r) := bind_k _ _
theorem rg1_k {j : Int} {n : Nat} (h : j = n) (hn : n ≤ 100000) : rg1K [.int j] = .ok (rgD 0 n) := by
  subst h
  unfold rg1K
  simp only
  rw [if_pos (by omega)]
  congr 1
theorem rg2_k {i j : Int} {n : Nat} (h : (j - i).toNat = n) (hi : -100000 ≤ i ∧ i ≤ 100000) (hj : -100000 ≤ j ∧ j ≤ 100000) : rg2K [.int i, .int j] = .ok (rgD i n) := by
  subst h
  unfold rg2K
  simp only
  rw [if_pos ⟨hi, hj⟩]
end
/-- a loop, by what holds ahead of each turn -/
theorem forL_inv {p : TP} {body : SB} (I : Nat → SE → Prop) : ∀ (items : List D) (k : Nat) (ρ : SE), I k ρ →
    (∀ (i : Nat) (d : D) (ρ : SE), items[i]? = some d → I (k + i) ρ → ∃ ρ1 ρ2, p.bindS d ρ = .ok ρ1 ∧ (body ρ1 = .ok (.nx ρ2) ∨ body ρ1 = .ok (.ct ρ2)) ∧ I (k + i + 1) ρ2) →
    ∃ ρ', forL p body items ρ = .ok (.nx ρ') ∧ I (k + items.length) ρ'
  | [], k, ρ, h, _ => ⟨ρ, rfl, h⟩
  | d :: rest, k, ρ, h, st => by
    obtain ⟨ρ1, ρ2, h1, h2, h3⟩ := st 0 d ρ rfl h
    obtain ⟨ρ', q1, q2⟩ := forL_inv I rest (k + 1) ρ2 h3 fun i x ρ3 hx hI => by
      have hI' : I (k + (i + 1)) ρ3 := by
        rw [show k + (i + 1) = k + 1 + i by omega]
        exact hI
      obtain ⟨a, b, c1, c2, c3⟩ := st (i + 1) x ρ3 (by simpa using hx) hI'
      exact ⟨a, b, c1, c2, by rw [show k + 1 + i + 1 = k + (i + 1) + 1 by omega]; exact c3⟩
    refine ⟨ρ', ?_, by rw [List.length_cons, show k + (rest.length + 1) = k + 1 + rest.length by omega]; exact q2⟩
    unfold forL
    rw [h1]
    rcases h2 with h2 | h2
    · show (body ρ1).bind _ = _
      rw [h2]
      exact q1
    · show (body ρ1).bind _ = _
      rw [h2]
      exact q1
/-- a comprehension without a test, item by item -/
theorem compL_map {ρ : DE} {p : TP} {fe : DE → R D} (g : D → D) : ∀ (items : List D), (∀ d ∈ items, ∃ ρ1, p.bindE d ρ = .ok ρ1 ∧ fe ρ1 = .ok (g d)) → compL ρ p tTrue fe items = .ok (items.map g)
  | [], _ => rfl
  | d :: rest, h => by
    obtain ⟨ρ1, h1, h2⟩ := h d (by simp)
    rw [comp_cons, h1, kD_ok, comp_k1, comp_tt, comp_t, h2, kD_ok, comp_k3, compL_map g rest fun x hx => h x (by simp [hx]), kD_ok]
    rfl
theorem cut1 (a : D) (l : List D) : cutD (a :: l) (some 1) none = l := by
  have h1 : HT.sIx (a :: l).length 0 (some 1) = 1 := by
    simp [HT.sIx]
  unfold cutD
  rw [h1, HT.sIx_none]
  simp
theorem sl1 (a : D) (l : List D) : dSl (.tuple (a :: l)) (some 1) none = .ok (.tuple l) := by
  show R.ok (PyData.tuple (cutD (a :: l) (some 1) none)) = _
  rw [cut1]
theorem sl1L (a : D) (l : List D) : dSl (.list (a :: l)) (some 1) none = .ok (.list l) := by
  show R.ok (PyData.list (cutD (a :: l) (some 1) none)) = _
  rw [cut1]
theorem neI (i j : Int) : dNe (.int i) (.int j) = .ok (.bool (!(i == j))) := by
  unfold dNe
  rw [if_pos ⟨shp_int i, shp_int j⟩]
  simp [PyData.eqv]
theorem len_t (l : List D) : bLen [.tuple l] = .ok (.int l.length) := rfl
theorem len_l (l : List D) : bLen [.list l] = .ok (.int l.length) := rfl
theorem bools_map : ∀ bs : List Bool, boolsOf (bs.map PyData.bool) = some bs
  | [] => rfl
  | b :: r => by
    show (boolsOf (r.map PyData.bool)).map (b :: ·) = _
    rw [bools_map r]
    rfl
theorem all_l (bs : List Bool) : bAll [.list (bs.map PyData.bool)] = .ok (.bool (bs.all id)) := by
  unfold bAll
  simp only [bools_map]
theorem tuple_l (l : List D) : bTuple [.list l] = .ok (.tuple l) := rfl
theorem isi_ii (i : Int) : dIsi "int" (.int i) = .ok (.bool true) := by kernel_rfl
theorem isi_bi (i : Int) : dIsi "bool" (.int i) = .ok (.bool false) := by kernel_rfl
theorem isi_tt (l : List D) : dIsi "tuple" (.tuple l) = .ok (.bool true) := by kernel_rfl
theorem isi_ll (l : List D) : dIsi "list" (.list l) = .ok (.bool true) := by kernel_rfl
theorem isi_ss (z : Str) : dIsi "str" (.str z) = .ok (.bool true) := by kernel_rfl
theorem rg_mem {lo : Int} {n : Nat} {d : D} (h : d ∈ rgD lo n) : ∃ k : Nat, k < n ∧ d = .int (lo + k) := by
  unfold rgD at h
  obtain ⟨k, hk, rfl⟩ := List.mem_map.mp h
  exact ⟨k, List.mem_range.mp hk, rfl⟩
theorem rg_at {lo : Int} {n i : Nat} {d : D} (h : (rgD lo n)[i]? = some d) : i < n ∧ d = .int (lo + i) := by
  unfold rgD at h
  rw [List.getElem?_map] at h
  by_cases hi : i < n
  · rw [List.getElem?_range hi] at h
    cases h
    exact ⟨hi, rfl⟩
  · rw [List.getElem?_eq_none (by simpa using hi)] at h
    cases h

/-! ### owned lists in sight -/
def appL (i : Nat) (S : List Nat) (f : DE → R D) (ρ : SE) : Option Sl → R Fl
  | some (.ow ds) => kD (appK i S ρ ds) (f (vw S ρ))
  | _ => .bad
def tixN (p : TP) (ρ : SE) : Option D → R Fl
  | some d => kD nxK (p.bindS d ρ)
  | none => .bad
def tixK (p : TP) (ρ : SE) (ds : List D) (d : D) : R Fl := match d with
  | .int k => tixN p ρ (atI ds k)
  | _ => .bad
def tixL (p : TP) (S : List Nat) (f : DE → R D) (ρ : SE) : Option Sl → R Fl
  | some (.ow ds) => kD (tixK p ρ ds) (f (vw S ρ))
  | _ => .bad
def retL : Option Sl → R Fl
  | some (.ow ds) => .ok (.ro ds)
  | _ => .bad
section
variable {f : DE → R D} {ρ : SE} {i : Nat} {S : List Nat} {p : TP}
theorem app_b : sApp i S f ρ = appL i S f ρ (ρ[i]? : Option Sl) := by
  unfold sApp appL
  cases (ρ[i]? : Option Sl) with
  | none => rfl
  | some s =>
    cases s with
    | ow ds => exact bind_k _ _
    | _ => rfl
theorem app_l (ds : List D) : appL i S f ρ (some (.ow ds)) = kD (appK i S ρ ds) (f (vw S ρ)) := rfl
theorem tix_o (ds : List D) : ((f (vw S ρ)).bind fun k => match k with
    | .int k => match atI ds k with
      | some d => (p.bindS d ρ).bind fun ρ => R.ok (Fl.nx ρ)
      | none => .bad
    | _ => .bad) = kD (tixK p ρ ds) (f (vw S ρ)) := by
  rw [bind_k]
  congr 1
  funext d
  cases d with
  | int k =>
    show (match atI ds k with
      | some d => (p.bindS d ρ).bind fun ρ => R.ok (Fl.nx ρ)
      | none => .bad) = tixN p ρ (atI ds k)
    cases atI ds k with
    | none => rfl
    | some d => exact bind_k _ _
  | _ => rfl
theorem tix_a : sTgtIx p i S f ρ = tixL p S f ρ (ρ[i]? : Option Sl) := by
  unfold sTgtIx tixL
  cases (ρ[i]? : Option Sl) with
  | none => rfl
  | some s =>
    cases s with
    | ow ds => exact tix_o ds
    | _ => rfl
theorem tix_l (ds : List D) : tixL p S f ρ (some (.ow ds)) = kD (tixK p ρ ds) (f (vw S ρ)) := rfl
theorem tix_k {ds : List D} {k : Int} {d : D} (h : atI ds k = some d) : tixK p ρ ds (.int k) = kD nxK (p.bindS d ρ) := by
  show tixN p ρ (atI ds k) = _
  rw [h]
  rfl
theorem reto_a : sRetO i ρ = retL (ρ[i]? : Option Sl) := by
  unfold sRetO retL
  cases (ρ[i]? : Option Sl) with
  | none => rfl
  | some s => cases s <;> rfl
theorem reto_l (ds : List D) : retL (some (.ow ds)) = .ok (.ro ds) := rfl
theorem eVar_ow {ds : List D} (h : (ρ[i]? : Option Sl) = some (.ow ds)) (hi : i ∈ S) : eVar i (vw S ρ) = .ok (.list ds) := by
  unfold eVar vw
  rw [List.getElem?_mapIdx, h]
  show (match some (if i ∈ S then some (PyData.list ds) else none) with
    | some (some d) => R.ok d
    | _ => .bad) = _
  rw [if_pos hi]
theorem eVar_fz {d : D} (h : (ρ[i]? : Option Sl) = some (.fz d)) : eVar i (vw S ρ) = .ok d := by
  unfold eVar vw
  rw [List.getElem?_mapIdx, h]
  rfl
def frG (S : List Nat) : Nat → SE → SE
  | _, [] => []
  | k, s :: l => frS S k s :: frG S (k + 1) l
theorem frG_eq : ∀ (ρ : SE) (k : Nat), frG S k ρ = ρ.mapIdx fun i s => frS S (k + i) s
  | [], k => rfl
  | s :: l, k => by
    rw [List.mapIdx_cons]
    show frS S k s :: frG S (k + 1) l = _
    rw [frG_eq l (k + 1)]
    have e : (fun (i : Nat) (s : Sl) => frS S (k + 1 + i) s) = fun (i : Nat) (s : Sl) => frS S (k + (i + 1)) s := by
      funext i s
      rw [show k + 1 + i = k + (i + 1) by omega]
    rw [e]
    rfl
theorem frz_g : frz S ρ = frG S 0 ρ := by
  rw [frG_eq ρ 0]
  unfold frz
  have e : (frS S : Nat → Sl → Sl) = fun (i : Nat) (s : Sl) => frS S (0 + i) s := by
    funext i s
    rw [Nat.zero_add]
  rw [← e]
theorem frG_nil (k : Nat) : frG S k [] = [] := rfl
theorem frG_cons (k : Nat) (s : Sl) (l : SE) : frG S k (s :: l) = frS S k s :: frG S (k + 1) l := rfl
theorem frS_fz (k : Nat) (d : D) : frS S k (.fz d) = .fz d := rfl
theorem frS_no (k : Nat) : frS S k .no = .no := rfl
theorem th_tup (l : List D) : th S (flatD (.tuple l)) ρ = frz S ρ := rfl
theorem th_lst (l : List D) : th S (flatD (.list l)) ρ = frz S ρ := rfl
theorem th_int (k : Int) : th S (flatD (.int k)) ρ = ρ := rfl
end
end DL
set_option Elab.async false
set_option linter.all false
set_option maxRecDepth 100000
set_option maxHeartbeats 4000000
/-! DL15: len(set(..)) of ints, of one text; list(range(..)). -/
/-! ### sets of many texts (the loop over a list's items, after the one for ints) -/
namespace DLS
open PySem PySem.Spec PyProof.Rows
def dedS (σ : List Str) (v : Str) : List Str := if σ.any (· == v) then σ else σ ++ [v]
def metS (xs : List Str) : List Str := xs.foldl dedS []
theorem metS_snoc (l : List Str) (v : Str) : metS (l ++ [v]) = dedS (metS l) v := by
  unfold metS
  rw [List.foldl_append]
  rfl
theorem metS_take {xs : List Str} {i : Nat} (h : i < xs.length) : metS (xs.take (i + 1)) = dedS (metS (xs.take i)) (xs.getD i Str.empty) := by
  rw [List.take_succ, List.getElem?_eq_getElem h, Option.toList_some, metS_snoc, List.getD_eq_getElem?_getD, List.getElem?_eq_getElem h]
  rfl
theorem dedS_any (σ : List Str) (v k : Str) : (dedS σ v).any (· == k) = (σ.any (· == k) || decide (k = v)) := by
  unfold dedS
  by_cases h : σ.any (· == v) = true
  · rw [if_pos h]
    by_cases e : k = v
    · subst e; rw [h]; simp
    · simp [e]
  · rw [if_neg h, List.any_append]
    by_cases e : k = v
    · subst e; simp
    · have hb : (v == k) = false := by simpa [beq_iff_eq] using (fun h' : v = k => e h'.symm)
      simp [hb, e]
theorem dedS_len (σ : List Str) (v : Str) : (dedS σ v).length = if σ.any (· == v) then σ.length else σ.length + 1 := by
  unfold dedS
  split <;> simp
theorem metS_le (xs : List Str) : (metS xs).length ≤ xs.length := by
  have gen : ∀ (l σ : List Str), (l.foldl dedS σ).length ≤ σ.length + l.length := by
    intro l
    induction l with
    | nil => intro σ; simp
    | cons v l ih =>
      intro σ
      have h := ih (dedS σ v)
      have h2 := dedS_len σ v
      rw [List.foldl_cons, List.length_cons]
      split at h2 <;> omega
  have := gen xs []
  simpa [metS] using this
section
variable {prog : Program} {w : World} {A : Around} {R : Result → Shared → Prop} {I : Addr} {fp wr : List Addr} {G : Array GenState → Array GenState → Prop} {n : Nat} {P : Nat → Value → Prop} {St : Nat → Shared → Prop}
theorem loopT (W : WalksS prog w A.in1 I fp wr G n P St) (S : Addr) (hSf : S ∉ fp) (xs : List Str) (hsz : xs.length = n) (hb : n + 1 < scanBound) (hval : ∀ i v, P i v → ∃ t, v = .str (xs.getD i Str.empty) t) :
    ∀ (k i : Nat) (s : Shared), n - i = k → i ≤ n → St i s →
      s.heap.SetOf (PySem.strKind prog w) S (fun k' => (metS (xs.take i)).any (· == k')) (metS (xs.take i)).length →
      (∀ s', Moved (S :: wr) G s s' → s'.heap.SetOf (PySem.strKind prog w) S (fun k' => (metS (xs.take n)).any (· == k')) (metS (xs.take n)).length → R (.ok (.ret .none)) s') →
      codeAny (model prog w) A (.builtin "set.update.loop" ⟨[.ref S, .ref I], []⟩) R s := by
  have hSw : S ∉ wr := fun h => hSf (W.sub _ h)
  have hsub : ∀ b ∈ wr, b ∈ S :: wr := fun b hb => List.mem_cons_of_mem _ hb
  intro k
  induction k with
  | zero =>
    intro i s hk hi hst hS hR
    obtain rfl : i = n := by omega
    refine codeAny_builtin PyProof.Rows.F.entry_set_update_loop ?_
    rw [Around.under_plainId PyProof.Rows.F.plain_set_update_loop _]
    show wpAny _ A.in1 (pyNext (.ref I) >>= _) _ _ s
    refine wpAny_bind (W.done s _ _ hst fun s' hm => ?_)
    show wpAny _ A.in1 (ret Value.none) _ _ s'
    obtain ⟨o, es, ep, t, ho, rest⟩ := hS
    exact wpAny_pure (hR s' (hm.mono hsub) ⟨o, es, ep, t, hm.heap S _ hSw ho, rest⟩)
  | succ k ih =>
    intro i s hk hi hst hS hR
    have hlt : i < n := by omega
    refine codeAny_builtin PyProof.Rows.F.entry_set_update_loop ?_
    rw [Around.under_plainId PyProof.Rows.F.plain_set_update_loop _]
    show wpAny _ A.in1 (pyNext (.ref I) >>= _) _ _ s
    refine wpAny_bind (W.item i s _ _ hlt hst fun v s' hP hst' hm => ?_)
    obtain ⟨t, rfl⟩ := hval i v hP
    obtain ⟨o, es, ep, tb, ho, rest⟩ := hS
    have hS' : s'.heap.SetOf (PySem.strKind prog w) S (fun k' => (metS (xs.take i)).any (· == k')) (metS (xs.take i)).length := ⟨o, es, ep, tb, hm.heap S _ hSw ho, rest⟩
    show wpAny _ A.in1 (holding [Value.str (xs.getD i Str.empty) t] (setAdd S (.str (xs.getD i Str.empty) t)) >>= _) _ _ s'
    refine wpAny_bind (wpAny_holding ?_)
    unfold setAdd
    refine wpAny_holding ?_
    refine wpAny_bind ((PySem.strKind prog w).pyHash (k := xs.getD i Str.empty) (strKind_is _ _ _ _) ?_)
    have hroom : (metS (xs.take i)).length + 1 < scanBound := by
      have h1 := metS_le (xs.take i)
      have h2 : (xs.take i).length ≤ i := List.length_take_le _ _
      omega
    refine wpAny_setAddHashed_of (knd := PySem.strKind prog w) (s := { s' with toks := s'.toks + 1 }) (strKind_is _ _ _ _) rfl hS' hroom fun h' hsb hS2 => ?_
    have hSi : h'.SetOf (PySem.strKind prog w) S (fun k' => (metS (xs.take (i + 1))).any (· == k')) (metS (xs.take (i + 1))).length :=
      SetOf_congr hS2 (fun k' => by rw [metS_take (by omega), dedS_any]) (by rw [metS_take (by omega), dedS_len])
    refine wpAny_pure ⟨plainId_quiet PyProof.Rows.F.plain_set_update_loop _, ih (i + 1) _ (by omega) hlt (W.frame _ s' _ _ hst' (Nat.le_succ _) fun b hb o e => ?_) hSi fun s'' hm'' hS'' => ?_⟩
    · rw [hsb.2 b (fun h : b = S => hSf (by rw [← h]; exact hb))]; exact e
    · refine hR s'' (Moved.trans W.gtrans ((hm.mono hsub).then_heap (Nat.le_succ _) fun b o hb e => ?_) hm'') hS''
      rw [hsb.2 b (fun h : b = S => hb (by rw [h]; exact List.mem_cons_self))]; exact e
end
section
variable {prog : Program} {w : World} {A : Around} {E : Value → Shared → Prop} {s : Shared}
theorem call_setT {l : Addr} {items : Array Value} {xs : List Str} {Q : Value → Shared → Prop} (hh : A.handled = none) (hl : s.heap.IsList l items) (hi : PyProof.Rows.StrsAre items.toList xs) (hn1 : items.size + 1 < scanBound)
    (h : ∀ (h' : Heap) (tk : Nat), h'.SetOf (PySem.strKind prog w) s.heap.objs.size (fun k' => (metS (xs.take items.size)).any (· == k')) (metS (xs.take items.size)).length →
      (∀ b o, b < s.heap.objs.size → s.heap.get? b = some o → h'.get? b = some o) → Q (.ref s.heap.objs.size) { s with heap := h', toks := tk }) :
    wpAny (model prog w) A (call (.type "set") [.ref l]) Q E s := by
  obtain ⟨c, tl, hmro⟩ := PySem.F.called_set.mro
  have hmade := PySem.F.called_set.made
  have hsub := PySem.F.called_set.sub
  refine wpAny_call (codeAny_of_tree ?_)
  show wpAny _ _ (callAny (.type "set") _) _ _ _
  refine wpAny_pure ⟨Code.quiet_builtin _ (by decide +kernel), codeAny_builtin PySem.F.entry_type_call ?_⟩
  rw [Around.under_plain (weight_type_call_type "set" [.ref l] []) rfl]
  have h1 := PySem.F.called_set.notType
  have h2 := PySem.F.called_set.canCreate
  have hct := PySem.F.typeCall_set_1 (.ref l)
  repeat (any_goals (first | assumption | wp_step))
  refine codeAny_mono (code_set_new_1 (.ref l) (E := E) (Q₁ := fun obj s₁ => ∃ led : Bool, obj = .ref s.heap.objs.size ∧ s₁ = { s with heap := s.heap.push { cls := .type "set", dict := none, data := .set #[] 0 (.fresh 0 0 led) } }) fun led => ⟨led, rfl, rfl⟩) fun r s₁ hr => ?_
  match r, hr with
  | .error e, hr => exact hr
  | .ok (.ret obj), hr =>
    obtain ⟨led, rfl, rfl⟩ := hr
    have hS : (s.heap.push { cls := .type "set", dict := none, data := .set #[] 0 (.fresh 0 0 led) }).get? s.heap.objs.size = some { cls := .type "set", dict := none, data := .set #[] 0 (.fresh 0 0 led) } := Heap.get?_push_size _ rfl
    have hT : Shared.TypeIs { s with heap := s.heap.push { cls := .type "set", dict := none, data := .set #[] 0 (.fresh 0 0 led) } } (.ref s.heap.objs.size) "set" := ⟨_, hS, rfl⟩
    have hli := PySem.F.called_set.init.lookup
    have hbi := PySem.F.called_set.init.bind (.ref s.heap.objs.size)
    repeat (any_goals (first | assumption | wp_step))
    refine codeAny_mono (codeAny_call_builtin (R := wants (fun r s₂ => r = .none ∧ ∃ h' tk, s₂ = { s with heap := h', toks := tk } ∧
        h'.SetOf (PySem.strKind prog w) s.heap.objs.size (fun k' => (metS (xs.take items.size)).any (· == k')) (metS (xs.take items.size)).length ∧
        (∀ b o, b < s.heap.objs.size → s.heap.get? b = some o → h'.get? b = some o)) E) PySem.F.called_set.init.plain PySem.F.entry_set_init (check_set_init_1 hT ?_)) fun r₂ s₂ hr₂ => ?_
    · obtain ⟨ol, hol, hcl, nl, hdl⟩ := hl
      obtain ⟨ocls, odict, odata, oslots⟩ := ol
      simp only at hcl hdl
      subst hcl; subst hdl
      have hol' : (s.heap.push { cls := .type "set", dict := none, data := .set #[] 0 (.fresh 0 0 led) }).get? l = some { cls := .type "list", dict := odict, data := .seq items nl, slots := oslots } := Heap.get?_push_of_some _ hol
      have hsls := PySem.F.sub_list_set
      have hslf := PySem.F.sub_list_frozenset
      have hne : (Value.type "list" == Value.type "dict") = false := by decide
      have hl1 : (s.heap.push { cls := .type "set", dict := none, data := .set #[] 0 (.fresh 0 0 led) }).IsList l items := ⟨_, hol', rfl, nl, rfl⟩
      unfold Builtin.«set.__init__» noKeywords Builtin.Frozenset.updateFrom
      generalize hPI : pyIter = PI
      wp_walk
      subst hPI
      refine wpAny_pyIter_list hl1 ?_
      refine wpAny_bind (wpAny_runValue ?_)
      have hlS : l < s.heap.objs.size := Heap.lt_size hol
      have hh3 : A.in1.in1.in1.handled = none := by simp [hh]
      have hneI : l ≠ (s.heap.push { cls := .type "set", dict := none, data := .set #[] 0 (.fresh 0 0 led) }).objs.size := by
        rw [Heap.size_push]; exact Nat.ne_of_lt (Nat.lt_succ_of_lt hlS)
      have hSf : s.heap.objs.size ∉ [(s.heap.push { cls := .type "set", dict := none, data := .set #[] 0 (.fresh 0 0 led) }).objs.size, l] := by
        rw [Heap.size_push]; simp only [List.mem_cons, List.mem_singleton, List.not_mem_nil, or_false, not_or]
        exact ⟨Nat.ne_of_lt (Nat.lt_succ_self _), Nat.ne_of_gt hlS⟩
      have hsz : xs.length = items.size := by rw [← StrsAre.length hi, Array.length_toList]
      have hval : ∀ (i : Nat) (v : Value), items[i]? = some v → ∃ t, v = .str (xs.getD i Str.empty) t := fun i v hv => SS.strs_at hi i v (by rw [Array.getElem?_toList]; exact hv)
      refine loopT ((Walks.list hh3 _ l hneI items).toS) s.heap.objs.size hSf xs hsz hn1 hval (items.size - 0) 0 _ (by omega) (Nat.zero_le _) ⟨⟨_, Heap.get?_push_size _ rfl, rfl, rfl⟩, (hl1.push _)⟩ ?hS0 ?hR
      case hS0 =>
        have hget : ((s.heap.push { cls := .type "set", dict := none, data := .set #[] 0 (.fresh 0 0 led) }).push { cls := .type "list_iterator", data := .fields #[.ref l, .int 0 0] }).get? s.heap.objs.size
            = some { cls := .type "set", dict := none, data := .set #[] 0 (.fresh 0 0 led) } := Heap.get?_push_of_some _ hS
        exact PyProof.Rows.SetOf_congr ((PyProof.Rows.setObjOf_fresh (knd := PySem.strKind prog w) led).setOf hget (by unfold scanBound; omega)) (fun _ => rfl) rfl
      case hR =>
        intro s' hm hS'
        obtain ⟨h', g', d', tk', os'⟩ := s'
        have eg : g' = s.gens := hm.gens
        have ed : d' = s.drawn := hm.drawn
        have eo : os' = s.os := hm.os
        subst eg; subst ed; subst eo
        show wpAny _ _ _ _ _ _
        refine wpAny_pure ?_
        show wpAny _ _ (ret Value.none) _ _ _
        refine wpAny_pure ⟨rfl, h', tk', rfl, hS', fun b o hb e => ?_⟩
        have hb1 : b ≠ s.heap.objs.size := Nat.ne_of_lt hb
        have hb2 : b ≠ (s.heap.push { cls := .type "set", dict := none, data := .set #[] 0 (.fresh 0 0 led) }).objs.size := by
          rw [Heap.size_push]; exact Nat.ne_of_lt (Nat.lt_succ_of_lt hb)
        exact hm.heap b o (by simp only [List.mem_cons, List.mem_singleton, List.not_mem_nil, or_false, not_or]; exact ⟨hb1, hb2⟩) (Heap.get?_push_of_some _ (Heap.get?_push_of_some _ e))
    · match r₂, hr₂ with
      | .error e, hr₂ => exact hr₂
      | .ok (.ret r), hr₂ =>
        obtain ⟨rfl, h', tk, rfl, hS', hk'⟩ := hr₂
        repeat (any_goals (first | assumption | wp_step))
        exact h _ _ hS' hk'
end
end DLS
namespace DL
open PySem PySem.Spec PyProof.Rows L2 RZ
section
variable {G : Gd} {E : XK} {X : Cx} {a e : Expr} {f g : DE → R D} {pos : Pos}
/-- how many different ints -/
def nSet (ns : List Int) : Nat := (PyProof.Rows.firstMet (fun i => ns.getD i 0) ns.length).length
def tLenSetJ (K : PySem.W.Frag) (ta : TE) : TE := fun σ H Q => ta σ H fun x H1 => ∃ (l : Addr) (ns : List Int), x = V.ref l ∧ Rd H1 l (.lst (ns.map V.int)) ∧ ns.length ≤ 4000 ∧ Q (.int (nSet ns : Nat)) H1
theorem pe_lenSetJ {ta : TE} {p p2 q : Pos} (hg : Gl X "len") (hm : X.mg "len" = none) (hg2 : Gl X "set") (hm2 : X.mg "set" = none) (ha : PE X a ta) (hc : X.calm = true)
    (na : starEach [a] X.env = (false, eval a X.env) :: starEach [] X.env := by rfl) : PE X (.Call (.Name "len" p) [.Call (.Name "set" p2) [a] [] q] [] pos) (tLenSetJ X.K ta) := ⟨fun pins s σ H Q I h => by
  refine Call_ (ld_blt I hg hm boot_len ?_)
  refine PyProof.Rows.callWith_builtin1 (PyProof.Rows.args_cons ?_ rfl) rfl rfl
  refine Call_ (ld_blt I hg2 hm2 boot_set ?_)
  refine PyProof.Rows.callWith_type1 (PyProof.Rows.args_cons (thn (ha.run pins s σ H _ I h) fun v s1 hs => PyProof.Rows.args_nil ?_) na) na rfl
  obtain ⟨x, H1, I1, r1, l, ns, rfl, hq, hl, q1⟩ := hs
  cases r1
  obtain ⟨its, r, pl, hz⟩ := I1.list (.inl hq)
  have hlen : its.toArray.size = ns.length := by
    rw [List.size_toArray, ← r.length]
    exact List.length_map _
  refine call_set_list (I1.ok.hd hc) pl.isList (show IntsAre its.toArray.toList ns by simpa using RZ.intsAre_vals r) (show its.toArray.size + 1 < scanBound by rw [hlen]; unfold scanBound; omega) fun h' tk hS hk => PyProof.Rows.args_nil ?_
  rw [hlen] at hS
  obtain ⟨o, es, ep, t, ho, hex, hd, _, _, _, hf, hn⟩ := hS
  have I2 : Inv X pins σ H1 { s1 with heap := h', toks := tk } := I1.kept fun b o e => hk b o (Heap.lt_size e) e
  have hb := PyProof.Rows.firstMet_length_le (fun i => ns.getD i 0) ns.length
  exact call_len_set ho hex hd hf (by rw [hn] <;> omega) ⟨.int (nSet ns : Nat), H1, I2.tok _, ⟨_, by rw [hn] <;> rfl⟩, q1⟩⟩
/-- texts -/
def strsOf : List D → Option (List Str)
  | [] => some []
  | .str x :: l => (strsOf l).map (x :: ·)
  | _ => none
theorem strsOf_eq : ∀ {l : List D} {xs : List Str}, strsOf l = some xs → l = xs.map PyData.str
  | [], xs, h => by cases h; rfl
  | d :: l, xs, h => by
    cases d with
    | str x =>
      unfold strsOf at h
      cases q : strsOf l with
      | none => rw [q] at h; cases h
      | some ys =>
        rw [q] at h
        cases h
        rw [strsOf_eq q]
        rfl
    | _ => cases h
theorem strsOf_map : ∀ xs : List Str, strsOf (xs.map PyData.str) = some xs
  | [] => rfl
  | x :: xs => by
    show (strsOf (xs.map PyData.str)).map (x :: ·) = _
    rw [strsOf_map xs]
    rfl
theorem strs_rp {K : PySem.W.Frag} {H : Hp} : ∀ {vs : List V} {xs : List Str}, RpAll K H vs (xs.map PyData.str) → vs = xs.map V.str
  | _, [], h => by cases h; rfl
  | _, x :: xs, h => by
    cases h with
    | cons a b =>
      cases a
      rw [strs_rp b]
      rfl
def tLenSetT (K : PySem.W.Frag) (ta : TE) : TE := fun σ H Q => ta σ H fun x H1 => ∃ (l : Addr) (xs : List Str), x = V.ref l ∧ Rd H1 l (.lst (xs.map V.str)) ∧ xs.length ≤ 4000 ∧ Q (.int ((DLS.metS xs).length : Nat)) H1
theorem pe_lenSetT {ta : TE} {p p2 q : Pos} (hg : Gl X "len") (hm : X.mg "len" = none) (hg2 : Gl X "set") (hm2 : X.mg "set" = none) (ha : PE X a ta) (hc : X.calm = true)
    (na : starEach [a] X.env = (false, eval a X.env) :: starEach [] X.env := by rfl) : PE X (.Call (.Name "len" p) [.Call (.Name "set" p2) [a] [] q] [] pos) (tLenSetT X.K ta) := ⟨fun pins s σ H Q I h => by
  refine Call_ (ld_blt I hg hm boot_len ?_)
  refine PyProof.Rows.callWith_builtin1 (PyProof.Rows.args_cons ?_ rfl) rfl rfl
  refine Call_ (ld_blt I hg2 hm2 boot_set ?_)
  refine PyProof.Rows.callWith_type1 (PyProof.Rows.args_cons (thn (ha.run pins s σ H _ I h) fun v s1 hs => PyProof.Rows.args_nil ?_) na) na rfl
  obtain ⟨x, H1, I1, r1, l, xs, rfl, hq, hl, q1⟩ := hs
  cases r1
  obtain ⟨its, r, pl, hz⟩ := I1.list (.inl hq)
  have hlen : its.toArray.size = xs.length := by rw [List.size_toArray, ← r.length, List.length_map]
  refine DLS.call_setT (I1.ok.hd hc) pl.isList (by simpa using strsAre_of r) (show its.toArray.size + 1 < scanBound by rw [hlen]; unfold scanBound; omega) fun h' tk hS hk => PyProof.Rows.args_nil ?_
  rw [hlen, List.take_length] at hS
  obtain ⟨o, es, ep, t, ho, hex, hd, _, _, _, hf, hn⟩ := hS
  have I2 : Inv X pins σ H1 { s1 with heap := h', toks := tk } := I1.kept fun b o e => hk b o (Heap.lt_size e) e
  have hb := DLS.metS_le xs
  exact call_len_set ho hex hd hf (by rw [hn] <;> omega) ⟨.int ((DLS.metS xs).length : Nat), H1, I2.tok _, ⟨_, by rw [hn] <;> rfl⟩, q1⟩⟩
/-- ints, or texts -/
def dLenSet : D → R D
  | .list ds => (match intsOf ds with
    | some ns => if ns.length ≤ 4000 then .ok (.int (nSet ns : Nat)) else .bad
    | none => (match strsOf ds with
      | some xs => if xs.length ≤ 4000 then .ok (.int ((DLS.metS xs).length : Nat)) else .bad
      | none => .bad))
  | _ => .bad
theorem pd_lenSet {p p2 q : Pos} (hg : Gl X "len") (hm : X.mg "len" = none) (hg2 : Gl X "set") (hm2 : X.mg "set" = none) (ha : PD G E X a f) (hc : X.calm = true)
    (na : starEach [a] X.env = (false, eval a X.env) :: starEach [] X.env := by rfl) : PD G E X (.Call (.Name "len" p) [.Call (.Name "set" p2) [a] [] q] [] pos) (eUn dLenSet f) := ⟨fun pins s σ H Q I hq => by
  obtain ⟨ρ, hr, ho⟩ := hq
  unfold eUn at ho
  have main : (∃ ns : List Int, ∃ ds, f ρ = .ok (.list ds) ∧ intsOf ds = some ns) ∨ ¬ ∃ ns : List Int, ∃ ds, f ρ = .ok (.list ds) ∧ intsOf ds = some ns := Classical.em _
  rcases main with ⟨ns, ds, hf, hi⟩ | hno
  · refine (pe_lenSetJ hg hm hg2 hm2 ha hc na).run pins s σ H Q I ⟨ρ, hr, ?_⟩
    rw [hf] at ho ⊢
    have ho : Out G E (Rp X.K) H (dLenSet (.list ds)) Q := ho
    unfold dLenSet at ho
    simp only [hi] at ho
    by_cases hz : ns.length ≤ 4000
    · rw [if_pos hz] at ho
      intro v H' e' r
      cases r with
      | lst a1 b1 =>
        rw [ints_rp b1 hi] at a1
        exact ⟨_, ns, rfl, a1, hz, ho _ H' e' (.int _)⟩
    · rw [if_neg hz] at ho
      exact ho.elim
  · refine (pe_lenSetT hg hm hg2 hm2 ha hc na).run pins s σ H Q I ⟨ρ, hr, ?_⟩
    cases hf : f ρ with
    | bad => rw [hf] at ho; exact ho.elim
    | err c => rw [hf] at ho; exact ho
    | ok d =>
      rw [hf] at ho
      have ho : Out G E (Rp X.K) H (dLenSet d) Q := ho
      cases d with
      | list ds =>
        unfold dLenSet at ho
        cases hi : intsOf ds with
        | some ns => exact absurd ⟨ns, ds, hf, hi⟩ hno
        | none =>
          simp only [hi] at ho
          cases hx : strsOf ds with
          | none => rw [hx] at ho; exact ho.elim
          | some xs =>
            simp only [hx] at ho
            by_cases hz : xs.length ≤ 4000
            · rw [if_pos hz] at ho
              intro v H' e' r
              cases r with
              | lst a1 b1 =>
                rw [strsOf_eq hx] at b1
                rw [strs_rp b1] at a1
                exact ⟨_, xs, rfl, a1, hz, ho _ H' e' (.int _)⟩
            · rw [if_neg hz] at ho
              exact ho.elim
      | _ => exact ho.elim⟩
/-- list(range(e)) -/
def dLstRg : D → R D
  | .int n => if -100000 ≤ n ∧ n ≤ 100000 then .ok (.list (rgD 0 n.toNat)) else .bad
  | _ => .bad
theorem rp_rg {K : PySem.W.Frag} {H : Hp} (n : Int) : RpAll K H (rgV 0 n) (rgD 0 n.toNat) := by
  unfold rgV rgD
  rw [Int.sub_zero]
  generalize List.range n.toNat = l
  induction l with
  | nil => exact .nil
  | cons i r ih => exact .cons (.int _) ih
theorem pd_listRg {p p2 q : Pos} (hc : X.calm = true) (hg : Gl X "list") (hm : X.mg "list" = none) (hg2 : Gl X "range") (hm2 : X.mg "range" = none) (ha : PD G E X a f) (na : starEach [a] X.env = (false, eval a X.env) :: starEach [] X.env := by rfl)
    (nb : starEach [.Call (.Name "range" p2) [a] [] q] X.env = (false, eval (.Call (.Name "range" p2) [a] [] q) X.env) :: starEach [] X.env := by rfl) : PD G E X (.Call (.Name "list" p) [.Call (.Name "range" p2) [a] [] q] [] pos) (eUn dLstRg f) := by
  refine pe_imp (pe_listRg hc hg hm (prg_1 hg2 hm2 ha na) nb) ?_
  rintro σ H Q ⟨ρ, hr, ho⟩
  refine ⟨ρ, hr, (Out.bind (rel := Rp X.K) ho).mono ?_⟩
  rintro x H1 e1 - ⟨d1, hd1, _, hx, ho⟩
  cases d1 with
  | int n =>
    cases hx
    have ho : Out G E (Rp X.K) H1 (if -100000 ≤ n ∧ n ≤ 100000 then R.ok (PyData.list (rgD 0 n.toNat)) else .bad) Q := ho
    by_cases hz : -100000 ≤ n ∧ n ≤ 100000
    · rw [if_pos hz] at ho
      refine ⟨n, rfl, ⟨by omega, by omega, by omega, by omega, by omega⟩, fun p hp => ho _ _ (Ex.new hp) (.lst (.inl upd_same) (rp_rg n))⟩
    · rw [if_neg hz] at ho
      exact ho.elim
  | _ => exact ho.elim
end
end DL
set_option Elab.async false
set_option linter.all false
set_option maxRecDepth 100000
set_option maxHeartbeats 4000000
/-! DL16: x, y = e, []; loops that may return; comprehensions by what their items satisfy. -/
namespace DL
open PySem PySem.Spec PyProof.Rows L2 RZ
def sParO (i j : Nat) (S : List Nat) (f : DE → R D) : SB := fun ρ => (f (vw S ρ)).bind fun d => .ok (.nx (((th S (flatD d) ρ).set i (.fz d)).set j (.ow [])))
section
variable {G : Gd} {E : XK} {X : Cx} {a : Expr} {f : DE → R D} {pos : Pos}
theorem psd_parO (S : List Nat) {i j : Nat} {x y : Str} {px1 py pt lp : Pos} {kt k2 : Nat} {pt2 : Pos} (hc : X.calm = true) (hN : X.N.Nodup) (hi : X.N[i]? = some x) (hj : X.N[j]? = some y) (hij : i ≠ j)
    (hx : X.env.scope.names.lookup x = some .local) (hy : X.env.scope.names.lookup y = some .local) (ha : PD G E X a f)
    (hw : swappedStores [.Tuple [.Name x px1, .Name y py] kt pt] (.Tuple [a, .List [] lp] k2 pt2) X.env = pure (some [x, y]) := by rfl)
    (hs : swapsWithSole [.Tuple [.Name x px1, .Name y py] kt pt] (.Tuple [a, .List [] lp] k2 pt2) pos.line X.env = pure false := by rfl)
    (h1 : starEach [a, .List [] lp] X.env = (false, eval a X.env) :: starEach [.List [] lp] X.env := by rfl) (h2 : starEach [.List [] lp] X.env = (false, eval (.List [] lp) X.env) :: starEach [] X.env := by rfl) :
    PSD G E X (.Assign [.Tuple [.Name x px1, .Name y py] kt pt] (.Tuple [a, .List [] lp] k2 pt2) pos) (sParO i j S f) := by
  refine ps_imp (ps_par hc hN hi hj hij hx hy (pa_cons (px ha S) (pa_cons (pe_lst pa_nil) pa_nil h2) h1) hw hs) ?_
  rintro Dn σ H ⟨B, ρ, ad, L, r, k⟩
  refine ⟨B, ρ, ad, L, r, ?_⟩
  unfold sParO at k
  cases hq : f (vw S ρ) with
  | bad => rw [hq] at k; exact k
  | err c => rw [hq] at k; exact k
  | ok d =>
    rw [hq] at k
    intro v H' L2 r2 hv
    refine ⟨small100k (Nat.zero_le _), fun p hp => ?_⟩
    obtain ⟨L3, r3⟩ := r2.set (i := i) hv
    obtain ⟨ad', L4, r4⟩ := r3.newL (i := j) hp .nil
    exact ⟨_, _, rfl, k _ _ ad' L4 r4⟩
end
def parOK (i j : Nat) (S : List Nat) (ρ : SE) (d : D) : R Fl := .ok (.nx (((th S (flatD d) ρ).set i (.fz d)).set j (.ow [])))
theorem paro_a {i j : Nat} {S : List Nat} {f : DE → R D} {ρ : SE} : sParO i j S f ρ = kD (parOK i j S ρ) (f (vw S ρ)) := bind_k _ _
theorem paro_k {i j : Nat} {S : List Nat} {ρ : SE} (d : D) : parOK i j S ρ d = .ok (.nx (((th S (flatD d) ρ).set i (.fz d)).set j (.ow []))) := rfl
/-- within a comprehension nothing is let out -/
theorem passN {X : Cx} : Passes (L2N.CX X.prog X.w) X E0 := fun _ _ _ _ _ _ _ h => by
  obtain ⟨_, _, _, _, _, _, _, _, _, _, _, _, z⟩ := h
  exact z.elim
/-- a loop that may return, by what holds ahead of each turn -/
theorem forL_ret {p : TP} {body : SB} (I : SE → Prop) (P : D → Prop) : ∀ (items : List D) (ρ : SE), I ρ →
    (∀ d ∈ items, ∀ ρ, I ρ → ∃ ρ1, p.bindS d ρ = .ok ρ1 ∧ ((∃ ρ2, body ρ1 = .ok (.nx ρ2) ∧ I ρ2) ∨ ∃ x, body ρ1 = .ok (.rt x) ∧ P x)) →
    (∃ ρ', forL p body items ρ = .ok (.nx ρ') ∧ I ρ') ∨ ∃ x, forL p body items ρ = .ok (.rt x) ∧ P x
  | [], ρ, h, _ => .inl ⟨ρ, rfl, h⟩
  | d :: rest, ρ, h, st => by
    obtain ⟨ρ1, h1, h2⟩ := st d (by simp) ρ h
    rcases h2 with ⟨ρ2, h2, h3⟩ | ⟨x, h2, h3⟩
    · rcases forL_ret I P rest ρ2 h3 fun y hy => st y (by simp [hy]) with ⟨ρ', q1, q2⟩ | ⟨x, q1, q2⟩
      · refine .inl ⟨ρ', ?_, q2⟩
        unfold forL
        rw [h1]
        show (body ρ1).bind _ = _
        rw [h2]
        exact q1
      · refine .inr ⟨x, ?_, q2⟩
        unfold forL
        rw [h1]
        show (body ρ1).bind _ = _
        rw [h2]
        exact q1
    · refine .inr ⟨x, ?_, h3⟩
      unfold forL
      rw [h1]
      show (body ρ1).bind _ = _
      rw [h2]
      rfl
/-- a loop over whatever, by what holds ahead of each turn -/
theorem forL_all {p : TP} {body : SB} (I : SE → Prop) : ∀ (items : List D) (ρ : SE), I ρ →
    (∀ d ∈ items, ∀ ρ, I ρ → ∃ ρ1 ρ2, p.bindS d ρ = .ok ρ1 ∧ (body ρ1 = .ok (.nx ρ2) ∨ body ρ1 = .ok (.ct ρ2)) ∧ I ρ2) →
    ∃ ρ', forL p body items ρ = .ok (.nx ρ') ∧ I ρ'
  | [], ρ, h, _ => ⟨ρ, rfl, h⟩
  | d :: rest, ρ, h, st => by
    obtain ⟨ρ1, ρ2, h1, h2, h3⟩ := st d (by simp) ρ h
    obtain ⟨ρ', q1, q2⟩ := forL_all I rest ρ2 h3 fun y hy => st y (by simp [hy])
    refine ⟨ρ', ?_, q2⟩
    unfold forL
    rw [h1]
    rcases h2 with h2 | h2
    · show (body ρ1).bind _ = _
      rw [h2]
      exact q1
    · show (body ρ1).bind _ = _
      rw [h2]
      exact q1
/-- a comprehension, by what its items satisfy -/
theorem compL_P {ρ : DE} {p : TP} {ft : DE → R Bool} {fe : DE → R D} (P : D → Prop) : ∀ (items : List D), (∀ d ∈ items, ∃ ρ1, p.bindE d ρ = .ok ρ1 ∧ (ft ρ1 = .ok false ∨ (ft ρ1 = .ok true ∧ ∃ y, fe ρ1 = .ok y ∧ P y))) →
    ∃ out, compL ρ p ft fe items = .ok out ∧ (∀ y ∈ out, P y) ∧ out.length ≤ items.length
  | [], _ => ⟨[], rfl, (fun _ h => nomatch h), Nat.le_refl _⟩
  | d :: rest, h => by
    obtain ⟨ρ1, h1, h2⟩ := h d (by simp)
    obtain ⟨out, q1, q2, q3⟩ := compL_P P rest fun x hx => h x (by simp [hx])
    rcases h2 with h2 | ⟨h2, y, h3, h4⟩
    · refine ⟨out, ?_, q2, by rw [List.length_cons]; omega⟩
      rw [comp_cons, h1, kD_ok, comp_k1, h2, comp_f, q1]
    · refine ⟨y :: out, ?_, fun z hz => ?_, by rw [List.length_cons, List.length_cons]; omega⟩
      · rw [comp_cons, h1, kD_ok, comp_k1, h2, comp_t, h3, kD_ok, comp_k3, q1, kD_ok]
        rfl
      · rcases List.mem_cons.mp hz with e | e
        · rw [e]
          exact h4
        · exact q2 z e
/-- .. without a test, the items one by one -/
theorem compL_PP {ρ : DE} {p : TP} {fe : DE → R D} (P : D → Prop) (items : List D) (h : ∀ d ∈ items, ∃ ρ1, p.bindE d ρ = .ok ρ1 ∧ ∃ y, fe ρ1 = .ok y ∧ P y) : ∃ out, compL ρ p tTrue fe items = .ok out ∧ (∀ y ∈ out, P y) ∧ out.length ≤ items.length :=
  compL_P P items fun d hd => by
    obtain ⟨ρ1, h1, y, h2, h3⟩ := h d hd
    exact ⟨ρ1, h1, .inr ⟨rfl, y, h2, h3⟩⟩
theorem ints_of : ∀ {l : List D}, (∀ d ∈ l, ∃ i, d = PyData.int i) → ∃ ns : List Int, l = ns.map PyData.int
  | [], _ => ⟨[], rfl⟩
  | d :: l, h => by
    obtain ⟨i, rfl⟩ := h d (by simp)
    obtain ⟨ns, e⟩ := ints_of (l := l) fun x hx => h x (by simp [hx])
    exact ⟨i :: ns, by rw [e]; rfl⟩
theorem bools_of : ∀ {l : List D}, (∀ d ∈ l, ∃ b, d = PyData.bool b) → ∃ bs : List Bool, l = bs.map PyData.bool
  | [], _ => ⟨[], rfl⟩
  | d :: l, h => by
    obtain ⟨i, rfl⟩ := h d (by simp)
    obtain ⟨ns, e⟩ := bools_of (l := l) fun x hx => h x (by simp [hx])
    exact ⟨i :: ns, by rw [e]; rfl⟩
theorem intsOf_eq : ∀ {l : List D} {ns : List Int}, intsOf l = some ns → l = ns.map PyData.int
  | [], ns, h => by
    cases h
    rfl
  | d :: l, ns, h => by
    cases d with
    | int i =>
      have h : (intsOf l).map (i :: ·) = some ns := h
      cases q : intsOf l with
      | none => rw [q] at h; cases h
      | some ms =>
        rw [q] at h
        cases h
        rw [intsOf_eq q]
        rfl
    | _ => cases h
theorem any_l (bs : List Bool) : bAny [.list (bs.map PyData.bool)] = .ok (.bool (bs.any id)) := by
  unfold bAny
  simp only [bools_map]
theorem enF_mem : ∀ {l : List D} {k : Int} {d : D}, d ∈ enF k l → ∃ (i : Int) (x : D), x ∈ l ∧ d = .tuple [.int i, x]
  | [], _, _, h => nomatch h
  | a :: l, k, d, h => by
    rcases List.mem_cons.mp h with e | e
    · exact ⟨k, a, by simp, e⟩
    · obtain ⟨i, x, h1, h2⟩ := enF_mem e
      exact ⟨i, x, by simp [h1], h2⟩
theorem neg_i (i : Int) : dNeg (.int i) = .ok (.int (-i)) := rfl
theorem rev_l (l : List D) : dRev (.list l) = .ok (.list l.reverse) := rfl
theorem cut_l (l : List D) (a b : Option Int) : dSl (.list l) a b = .ok (.list (cutD l a b)) := rfl
theorem cut_ints (ns : List Int) (a b : Option Int) : ∃ ms : List Int, cutD (ns.map PyData.int) a b = ms.map PyData.int ∧ ms.length ≤ ns.length := by
  unfold cutD
  rw [← List.map_drop, ← List.map_take]
  refine ⟨_, rfl, ?_⟩
  rw [List.length_take, List.length_drop]
  omega
theorem cat_l {a b : List D} (h : a.length + b.length ≤ 100000) : dAdd (.list a) (.list b) = .ok (.list (a ++ b)) := by
  show (if a.length + b.length ≤ 100000 then R.ok (PyData.list (a ++ b)) else .bad) = _
  rw [if_pos h]
theorem isNot_none : dIsNot .none .none = .ok (.bool false) := by kernel_rfl
theorem isNot_list (l : List D) : dIsNot (.list l) .none = .ok (.bool true) := by kernel_rfl
theorem isi_in (T : String) (h : dIsi T .none = .ok (.bool false)) : dIsi T .none = .ok (.bool false) := h
theorem isi_int_none : dIsi "int" .none = .ok (.bool false) := by kernel_rfl
theorem isi_int_bool (b : Bool) : dIsi "int" (.bool b) = .ok (.bool true) := by cases b <;> kernel_rfl
theorem isi_bool_bool (b : Bool) : dIsi "bool" (.bool b) = .ok (.bool true) := by cases b <;> kernel_rfl
theorem isi_list_none : dIsi "list" .none = .ok (.bool false) := by kernel_rfl
theorem isi_list_tup (l : List D) : dIsi "list" (.tuple l) = .ok (.bool false) := by kernel_rfl
theorem isi_list_int (i : Int) : dIsi "list" (.int i) = .ok (.bool false) := by kernel_rfl
theorem isi_list_str (z : Str) : dIsi "list" (.str z) = .ok (.bool false) := by kernel_rfl
theorem shp_bool (b : Bool) : SeqAt.shaped (.bool b) = true := by
  simp [SeqAt.shaped, PyData.canLay0, PyData.depth]
theorem neB (a b : Bool) : dNe (.bool a) (.bool b) = .ok (.bool (!(a == b))) := by
  unfold dNe
  rw [if_pos ⟨shp_bool a, shp_bool b⟩]
  simp [PyData.eqv]
end DL
set_option Elab.async false
set_option linter.all false
set_option maxRecDepth 100000
set_option maxHeartbeats 4000000
/-! DL17: while an exception is handled: a list walked to its end, sum of a comprehension, isinstance of what is handled. -/
namespace DL
open PySem PySem.Spec PySem.Calls PyProof.Rows L2 RZ
section
variable {prog : Program} {w : World} {A : Around} {E : Value → Shared → Prop} {s : Shared}
/-- a list's iterator comes to its end -/
theorem list_end_hot {it l x1 : Addr} {i : Nat} {items : Array Value} {Q : Option Value → Shared → Prop} (hot : HotX.HotAt A x1 s.heap) (hne : x1 ≠ it) (hit : s.heap.IsListIter it l i) (hl : s.heap.IsList l items) (hx : items[i]? = none)
    (hQ : ∀ h', (∀ b o, b ≠ it → s.heap.get? b = some o → h'.get? b = some o) → Q none { s with heap := h' }) : wpAny (model prog w) A (pyNext (.ref it)) Q E s := by
  obtain ⟨hh, o1, vs1, h1, d1, c1⟩ := hot
  obtain ⟨o, ho, hc, hd⟩ := id hit
  obtain ⟨ol, hol, _, nl, hdl⟩ := hl
  unfold pyNext
  refine wpAny_bind (wpAny_attempt (wpAny_callSpecial?_slot (name := Str.ofString "__next__") hit.typeIs slot_listiter_next (wpAny_call_entry slot_listiter_next hit.typeIs entry_listiter_next ?_ (args_listiter_next _))))
  show wpAny _ _ (field (.ref it) 0 >>= _) _ _ s
  refine wpAny_bind (wpAny_field ho hd (x := .ref l) rfl ?_)
  show wpAny _ _ (if (Value.ref l == Value.none) = true then _ else _) _ _ s
  rw [if_neg (show ¬ ((Value.ref l == Value.none) = true) from Bool.false_ne_true)]
  show wpAny _ _ (field (.ref it) 1 >>= _) _ _ s
  refine wpAny_bind (wpAny_field ho hd (x := .int i 0) rfl ?_)
  show wpAny _ _ (seqItems? (.ref l) >>= _) _ _ s
  refine wpAny_bind (wpAny_seqItems hol hdl ?_)
  simp only [Int.toNat_natCast, hx]
  refine wpAny_bind (wpAny_rule (wpAny_bind (wpAny_setField ho hd (by simp) ?_)))
  show wpAny _ _ (newExc (.type "StopIteration") [] >>= _) _ _ _
  refine wpAny_bind ?_
  simp only [newExc, newTuple]
  refine wpAny_bind (wpAny_newObj_type ?_ (by size_fits))
  refine wpAny_bind (m := firstArgMember _ _) (wpAny_of_eq (a := Value.none) (by first | rfl | (simp only [firstArgMember]; rfl)) ?_)
  refine wpAny_newObj_type ?_ (by size_fits)
  have h1' := (Heap.get?_update_other s.heap (Obj.mapFields (·.setIfInBounds 0 Value.none)) (show it ≠ x1 from Ne.symm hne)).trans h1
  refine HotX.raiseNew_hot ⟨hh, o1, vs1, Heap.get?_push_of_some _ (Heap.get?_push_of_some _ h1'), d1, c1⟩ (Nat.ne_of_lt (Heap.lt_size (Heap.get?_push_of_some _ h1'))) (Heap.get?_push_size _ rfl) rfl (by first | (simp; done) | (simp; omega) | (simp only [Array.size_append]; simp; omega)) ?_
  refine wpAny_bind (wpAny_isInstance (T := "StopIteration") (b := true) ⟨_, Heap.get?_update_self _ (Heap.get?_push_size _ rfl) rfl, rfl⟩ isSubtype_stop ?_)
  refine wpAny_pure (hQ _ fun b ob hb e => ?_)
  have e' := (Heap.get?_update_other s.heap (Obj.mapFields (·.setIfInBounds 0 Value.none)) (show it ≠ b from Ne.symm hb)).trans e
  rw [Heap.get?_update_other _ _ (Nat.ne_of_gt (Heap.lt_size (Heap.get?_push_of_some _ e')))]
  exact Heap.get?_push_of_some _ (Heap.get?_push_of_some _ e')
/-- a list walked -/
theorem walksH {I ax x1 : Addr} (hh : A.handled = some (.ref x1)) (h1 : ax ≠ I) (h2 : x1 ≠ I) (items : Array Value) :
    Walks prog w A I [I, ax, x1] [I] items.size (fun i v => items[i]? = some v) (fun i h => (h.IsListIter I ax i ∧ h.IsList ax items) ∧ ∃ (o : Obj) (vs : Array Value), h.get? x1 = some o ∧ o.data = .fields vs ∧ vs[2]? = some .none) where
  sub := fun b hb => by
    simp at hb
    simp [hb]
  frame := fun _ _ _ st hk => by
    obtain ⟨⟨a, b⟩, o, vs, c, d⟩ := st
    exact ⟨⟨a.at fun o e => hk I (by simp) o e, b.at fun o e => hk ax (by simp) o e⟩, o, vs, hk x1 (by simp) o c, d⟩
  item := fun i s Q E hi st hQ => by
    obtain ⟨⟨a, b⟩, o, vs, c, d⟩ := st
    refine wpAny_pyNext_list_item a b (x := items[i]) (by simp [hi]) fun h' hit' hs' => ?_
    exact hQ _ h' s.toks (by simp [hi]) ⟨⟨hit', b.extBut hs'.extBut h1⟩, o, vs, hs'.extBut x1 o h2 c, d⟩ fun b o hb e => hs'.extBut b o (fun h => hb (by simp [h])) e
  done := fun s Q E st hQ => by
    obtain ⟨⟨a, b⟩, o, vs, c, d⟩ := st
    exact list_end_hot ⟨hh, o, vs, c, d⟩ h2 a b (by simp) fun h' he' => hQ h' s.toks fun b o hb e => he' b o (fun h => hb (by simp [h])) e
  self := fun _ _ _ _ st hQ => wpAny_pyIter_listiter st.1.1 hQ
end
theorem relabel_id {scope : Scope} {env : Env} (h : ∀ z ∈ scope.names, z.2 ≠ .free) : relabel scope env = scope := by
  have e : (scope.names.map fun (n, k) => if (k == .free && env.scope.kind == .function && env.kindOf n == some .cell) then (n, NameKind.cell) else (n, k)) = scope.names := by
    have key : ∀ l : List (Str × NameKind), (∀ z ∈ l, z.2 ≠ .free) → (l.map fun (n, k) => if (k == .free && env.scope.kind == .function && env.kindOf n == some .cell) then (n, NameKind.cell) else (n, k)) = l := by
      intro l
      induction l with
      | nil => intro _; rfl
      | cons a l ih =>
        intro hl
        obtain ⟨n, k⟩ := a
        rw [List.map_cons, ih fun z hz => hl z (by simp [hz])]
        have hk : (k == NameKind.free) = false := by
          have := hl (n, k) (by simp)
          simpa using this
        simp [hk]
    exact key _ h
  unfold relabel
  rw [e]
def bI (b : Bool) : Int := if b then 1 else 0
def cntB (bs : List Bool) : Int := (bs.map bI).sum
def valB (bs : List Bool) (i : Nat) : Int := match bs[i]? with
  | some b => bI b
  | none => 0
theorem preSum_cnt (bs : List Bool) : ∀ k, k ≤ bs.length → preSum (valB bs) k = cntB (bs.take k)
  | 0, _ => by simp [preSum, cntB]
  | k + 1, h => by
    have hk : k < bs.length := h
    have e : bs.take (k + 1) = bs.take k ++ [bs[k]] := by
      rw [List.take_succ, List.getElem?_eq_getElem hk]
      rfl
    have ev : valB bs k = bI bs[k] := by
      unfold valB
      rw [List.getElem?_eq_getElem hk]
    rw [preSum, preSum_cnt bs k (by omega), e, ev]
    unfold cntB
    rw [List.map_append, List.sum_append]
    simp
theorem paired_at {α β : Type} {F : α → β → Prop} : ∀ {us : List α} {zs : List β}, Paired F us zs → ∀ {j : Nat} {z : β}, zs[j]? = some z → ∃ u, us[j]? = some u ∧ F u z
  | _, _, .nil, j, z, h => by simp at h
  | _, _, .cons a b, 0, z, h => by
    simp at h
    subst h
    exact ⟨_, rfl, a⟩
  | _, _, .cons a b, j + 1, z, h => by
    obtain ⟨u, h1, h2⟩ := paired_at b (j := j) (by simpa using h)
    exact ⟨u, by simpa using h1, h2⟩
theorem paired_len {α β : Type} {F : α → β → Prop} : ∀ {us : List α} {zs : List β}, Paired F us zs → us.length = zs.length
  | _, _, .nil => rfl
  | _, _, .cons a b => by simp [paired_len b]
/-- sum([int(v) for v in y]), y a list of bools -/
theorem pe_sumFlags {X : Cx} {i : Nat} {y v : Str} {p p1 p2 p3 p4 p5 p6 pos : Pos} {scope : Scope} (hot : L2H.HotC X) (hN : X.N[i]? = some y) (hv : Vis X.env.scope y) (gs : Gl X "sum") (ms : X.mg "sum" = none) (mi : X.mg "int" = none)
    (hk : scope.kind = .function) (hfree : ∀ z ∈ scope.names, z.2 ≠ .free) (hcell : ∀ z ∈ scope.names, z.2 ≠ .cell) (hnames : ∀ z ∈ scope.names, z.2 = .local → scope.names.lookup z.1 = some .local) (hx : scope.names.lookup v = some .local) (hi : scope.names.lookup ("int" : Str) = some .globalImplicit)
    (hvd : (v == ("__debug__" : Str)) = false := by decide) (hyd : (y == ("__debug__" : Str)) = false := by decide) (hyc : (y == ("__classdict__" : Str)) = false := by decide)
    (na : starEach [.ListComp (.Call (.Name "int" p1) [.Name v p2] [] p3) [⟨.Name v p4, .Name y p5, [], 0⟩] scope pos] X.env = (false, eval (.ListComp (.Call (.Name "int" p1) [.Name v p2] [] p3) [⟨.Name v p4, .Name y p5, [], 0⟩] scope pos) X.env) :: starEach [] X.env := by rfl) :
    PE X (.Call (.Name "sum" p) [.ListComp (.Call (.Name "int" p1) [.Name v p2] [] p3) [⟨.Name v p4, .Name y p5, [], 0⟩] scope pos] [] p6)
      (fun σ H Q => ∃ (l : Addr) (bs : List Bool), σ[i]? = some (some (.ref l)) ∧ H l = some (.lst (bs.map V.bl)) ∧ Q (.int (cntB bs)) H) := ⟨fun pins s σ H Q I h => by
  obtain ⟨l, bs, hσ, hl, q⟩ := h
  obtain ⟨x1, hh, o1, vs1, g1, d1, c1⟩ := hot.at I
  refine Call_ (ld_blt I gs ms boot_sum ?_)
  refine PyProof.Rows.callWith_builtin1 (PyProof.Rows.args_cons ?_ na) na rfl
  have hrel : relabel scope X.env = scope := relabel_id hfree
  refine wpAny_ListComp_free (fun _ => true) (fun u z => ∃ b t, u = Value.bool b ∧ z = Value.int (bI b) t) (closure_ok fun z hz e => absurd e (hfree z hz)) hcell hk hnames hx ?_
  refine thn ((pe_var (pos := p5) (i := i) hN hv hyd hyc).run pins s σ H (fun v H1 => v = .ref l ∧ H1 = H) I ⟨.ref l, hσ, rfl, rfl⟩) fun u s1 ⟨v', H1, I1, r1, q1⟩ => ?_
  obtain ⟨ev, eH⟩ := q1
  subst ev
  rw [eH] at I1
  obtain rfl : u = Value.ref l := r1
  obtain ⟨x1, hh, o1, vs1, g1, d1, c1⟩ := hot.at I1
  obtain ⟨its, rv, pl, hz⟩ := I1.list (.inl (.inl hl))
  have hlen : its.length = bs.length := by
    rw [← rv.length]
    exact List.length_map _
  have hlt : l < s1.heap.objs.size := by
    obtain ⟨o, e, _⟩ := pl.isList
    exact Heap.lt_size e
  have hx1 : x1 < s1.heap.objs.size := Heap.lt_size g1
  have itAt : ∀ (j : Nat) (z : Value), its.toArray[j]? = some z → ∃ b, bs[j]? = some b ∧ z = .bool b := fun j z e => by
    have e : its[j]? = some z := by simpa using e
    have hj : j < its.length := (List.getElem?_eq_some_iff.mp e).1
    have hb : bs[j]? = some bs[j] := List.getElem?_eq_getElem (by omega)
    obtain ⟨u, hu, ru⟩ := rv.get (i := j) (x := V.bl bs[j]) (by rw [List.getElem?_map, hb]; rfl)
    rw [e] at hu
    cases hu
    exact ⟨_, hb, ru⟩
  refine wpAny_pyIter_list pl.isList ?_
  have ks2 : ∀ b o, s1.heap.get? b = some o → (s1.heap.push { cls := .type "list_iterator", data := .fields #[.ref l, .int 0 0] }).get? b = some o := fun b o e => Heap.get?_push_of_some _ e
  refine ⟨s1.heap.objs.size, _, _, its.toArray.size, _, _, rfl, walksH hh (Nat.ne_of_lt hlt) (Nat.ne_of_lt hx1) its.toArray, ?_, ⟨⟨⟨_, Heap.get?_push_size _ rfl, rfl, rfl⟩, pl.isList.push _⟩, o1, vs1, ks2 _ _ g1, d1, c1⟩, fun b hb => ?_, ⟨fun C j z s3 m3 E' hC hP hn hm hkk ht => ?_, fun C j z s3 m3 E' hC hP _ hn hm hkk ht => ?_⟩, fun D h' tk ys vs hD hlD hplD hvl hvP hF hkk => ?_⟩
  · rw [List.size_toArray, ← rv.length]
    exact hz
  · show b < (s1.heap.push _).objs.size
    rw [Heap.size_push]
    simp only [List.mem_cons, List.not_mem_nil, or_false] at hb
    rcases hb with e | e | e
    · rw [e]
      exact Nat.lt_succ_self _
    · rw [e]
      exact Nat.lt_succ_of_lt hlt
    · rw [e]
      exact Nat.lt_succ_of_lt hx1
  · exact wpAny_pure ⟨rfl, s3.heap, s3.toks, rfl, fun _ _ e => e⟩
  · obtain ⟨b, hb, rfl⟩ := itAt j z hP
    have kb : ∀ a o, X.base.get? a = some o → s3.heap.get? a = some o := fun a o e => by
      have e1 := I1.bk a o e
      exact hkk a o (by simp; exact Nat.ne_of_lt (Heap.lt_size e1)) (ks2 _ _ e1)
    obtain ⟨mb, n1, n2⟩ := I1.mod.blt
    have hscope : (compEnvC scope (cloFrom X.env.cells scope.names []) C X.env).scope = scope := hrel
    have kint : (compEnvC scope (cloFrom X.env.cells scope.names []) C X.env).kindOf ("int" : Str) = some .globalImplicit := by
      show (compEnvC scope (cloFrom X.env.cells scope.names []) C X.env).scope.names.lookup _ = _
      rw [hscope]
      exact hi
    have kv : (compEnvC scope (cloFrom X.env.cells scope.names []) C X.env).kindOf v = some .local := by
      show (compEnvC scope (cloFrom X.env.cells scope.names []) C X.env).scope.names.lookup _ = _
      rw [hscope]
      exact hx
    have kk : (compEnvC scope (cloFrom X.env.cells scope.names []) C X.env).scope.kind = .function := by
      rw [hscope]
      exact hk
    refine Call_ (Calls.Name_function_global kk kint (Calls.loadGlobal_builtin (by show s3.heap.Ns X.env.globals X.mg; rw [I1.ok.glob]; exact I1.mod.glob.keeps kb) mi (by show s3.heap.Ns X.env.builtins mb; rw [I1.ok.blt]; exact n1.keeps kb) ((n2 "int" (by decide)).trans (show bootBuiltins "int" = some (.type "int") by decide +kernel)) ?_))
    refine PyProof.Rows.callWith_type1 (PyProof.Rows.args_cons (wpAny_Name (wpAny_loadName_local kk kv hn hm ?_) hvd) rfl) rfl rfl
    refine PyProof.Rows.args_nil ?_
    exact call_int_bool ⟨⟨b, _, rfl, rfl⟩, s3.heap, _, rfl, fun _ _ e => e⟩
  · refine PyProof.Rows.args_nil ?_
    have hvs : vs.filter (fun _ => true) = vs := by simp
    rw [hvs] at hF
    have kOld : ∀ b o, s1.heap.get? b = some o → h'.get? b = some o := fun b o e => hkk b o (by simp; exact Nat.ne_of_lt (Heap.lt_size e)) (ks2 _ _ e)
    have yAt : ∀ (j : Nat) (z : Value), ys[j]? = some z → ∃ t, z = .int (valB bs j) t := fun j z e => by
      have e : ys.toList[j]? = some z := by simpa using e
      obtain ⟨u, hu, b, t, rfl, rfl⟩ := paired_at hF e
      obtain ⟨b', hb', e2⟩ := itAt j _ (hvP j _ hu)
      cases e2
      unfold valB
      rw [hb']
      exact ⟨t, rfl⟩
    have hsz : ys.size = bs.length := by
      have := paired_len hF
      rw [hvl, List.size_toArray, hlen] at this
      simpa using this.symm
    have hD2 : D < h'.objs.size := by
      obtain ⟨o, e, _⟩ := hlD
      exact Heap.lt_size e
    have g1' := kOld _ _ g1
    refine call_sum_walkG (wpAny_pyIter_list hlD ?_)
    refine ⟨h'.objs.size, _, _, ys.size, _, _, valB bs, rfl, walksH (A := X.A.in1) hh (Nat.ne_of_lt hD2) (Nat.ne_of_lt (Heap.lt_size g1')) ys, ⟨⟨⟨_, Heap.get?_push_size _ rfl, rfl, rfl⟩, hlD.push _⟩, o1, vs1, Heap.get?_push_of_some _ g1', d1, c1⟩, fun b hb => ?_, yAt, fun h'' tk' t' hk'' => ?_⟩
    · show b < (h'.push _).objs.size
      rw [Heap.size_push]
      have := Heap.lt_size g1'
      simp only [List.mem_cons, List.not_mem_nil, or_false] at hb
      rcases hb with e | e | e
      · rw [e]
        exact Nat.lt_succ_self _
      · rw [e]
        exact Nat.lt_succ_of_lt hD2
      · rw [e]
        exact Nat.lt_succ_of_lt this
    · have e : preSum (valB bs) ys.size = cntB bs := by
        rw [hsz, preSum_cnt bs _ (Nat.le_refl _), List.take_length]
      rw [e]
      exact ⟨.int (cntB bs), H, I1.kept (t' := tk') fun b o e => hk'' b o (by simp; exact Nat.ne_of_lt (Heap.lt_size (kOld b o e))) (Heap.get?_push_of_some _ (kOld b o e)), ⟨_, rfl⟩, q⟩⟩
/-- isinstance(e, c), e what is handled -/
theorem call_isP {X : Cx} {a D : Addr} {oe : Obj} (hp : (a, oe) ∈ X.pn) (C : ExcC X.K D) (hz : L2N.Zn (.ref D) none oe) (hf : ∃ vs, oe.data = .fields vs) : CallR X (.builtin "isinstance") (rIsE X.K D a) := by
  intro pins s σ H xs us Q I r h
  obtain ⟨c, cv, b, rfl, hcv, e, q⟩ := h
  obtain ⟨u1, u2, rfl, rx, rt⟩ := vals2 r
  cases rx
  have ec := hcv _ rt
  subst ec
  obtain ⟨hget, _⟩ := I.pin (a, oe) (List.mem_append_left _ hp)
  obtain ⟨vs, hv⟩ := hf
  have J : PySem.W.InstAt s.heap a oe D none := by
    obtain ⟨oc, od, oda, osl⟩ := oe
    obtain ⟨h1, h2, _⟩ := hz
    dsimp only at h1 h2 hv
    subst h1 h2 hv
    exact ⟨hget, rfl, rfl, trivial⟩
  exact PySem.W.kia_one (PySem.W.handS_kitx_exc C.hg C.hk C.hs C.hd C.ha C.hn C.ht C.hm) I.kIn J e (fun z => nomatch z) fun tk => ⟨.bl b, H, I.kept (t' := tk) fun _ _ z => z, rfl, q⟩
end DL
set_option Elab.async false
set_option linter.all false
set_option maxRecDepth 100000
set_option maxHeartbeats 4000000
/-! DL18: a lambda handed to a def that tells what it tells, or the class of its refusal. -/
namespace DL
open PySem PySem.Spec PySem.Calls PyProof.Rows L2 RZ

/-! ### a def that is handed what is handled -/
def WordOk (P : Program) (w : World) (K : PySem.W.Frag) (mg : Str → Option Value) (base : Heap) (G : Gd) (k : Nat) (f : Addr) (wd : Exn → Str) : Prop :=
  ∀ (c : Exn) (p : Addr × Obj) (A : Around) (outer : List Env) (s : Shared) (H : Hp) (Q : VK), L2H.RoomH k A → L2H.Hot1 A p → L2H.PinOk outer H s p → L2N.Zn (.ref (G.cl c)) none p.2 → Env0 P w K mg base A outer s H → LamX.Tabs G.T H →
    (∀ H', Ex G.T H H' → Q (.str (wd c)) H') → codeAny (model P w) A (.call (.ref f) ⟨[.ref p.1], []⟩) (CR C8.CX0 outer P w H s Q C8.E0) s
section
variable {P : Program} {w : World} {K : PySem.W.Frag} {mg : Str → Option Value} {base : Heap} {G : Gd}
theorem wordOk {x : Str} {st : Stmt} {f : Addr} {fd : FuncData} {N : List Str} {n : Str} {k : Nat} {wd : Exn → Str} (Df : DefF K mg x st f fd) (S : FnScope N [n] (defScope st))
    (hbn : ∀ (kV doc pm : Value) (an : Option Addr) (cdv ct : Value) (us : List Value), us.length = [n].length → bindArgs (PySem.W.fnOf x x (defArgs st) (defBody st) (defScope st) .none kV doc pm an cdv ct) ⟨us, []⟩ = pure ([n].zip us))
    (hb : ∀ (c : Exn) (p : Addr × Obj) (cdv : Value) (A : Around) (outer : List Env) (s : Shared) (H : Hp) (Q : VK), L2H.Hot1 A p → L2H.RoomH k (A.deeper (envOfC x (defScope st) s.heap.objs.size f cdv)) → L2N.Zn (.ref (G.cl c)) none p.2 → LamX.Tabs G.T H → (∀ H', Ex G.T H H' → Q (.str (wd c)) H') →
      ∃ t, PSs (L2H.cxH C8.CX0 P w K mg base N x (defScope st) f cdv A outer s H C8.E0 p) (defBody st) t ∧ t { nx := fun _ H' => Q .non H', rt := Q } (L2.start N [.ref p.1]) H) : WordOk P w K mg base G (k + 1) f wd := by
  intro c p A outer s H Q hr hot hpin hz e0 hta hq
  have bn := Df.d.bindsN hbn
  obtain ⟨oc, od, dV, kV, doc, pm, an, cdv, ct, osl, rfl, lk, hcd, _, _⟩ := Df.d.ex
  have KX : K.In s.heap := e0.mod.kin.keeps fun b o e => (e0.bs b o e).1
  have lim : s.heap.NoLimit := e0.mod.nolimit.keeps fun b o e => (e0.bs b o e).1
  have hkind : ∀ y ∈ [n].zip [Value.ref p.1], (defScope st).names.lookup y.1 = some .local ∨ ((defScope st).names.lookup y.1 = some .cell ∧ ((cellsFrom (s.heap.objs.size + 1) (defScope st).names []).lookup y.1).isSome = true) := fun ⟨m, v⟩ hy => by
    rcases S.par m (List.of_mem_zip hy).1 with q | q
    · exact .inl q
    · exact .inr ⟨q, PySem.W.cellsFrom_some _ _ _ (.inl q)⟩
  refine codeAny_call_function hr.depth (KX _ _ lk) rfl S.co S.gen rfl (PySem.W.codeRec_of KX hcd) (bn s [.ref p.1] KX rfl _ _ _ _ ?_)
  refine wpAny_newFunctionEnv_cells S.kind hkind fun env he s1 x => ?_
  subst he
  refine ⟨lim.keeps x.toInCall.keep, codeAny_func ?_⟩
  obtain ⟨t, ht, hq⟩ := hb c p cdv A outer s H Q hot (hr.deeper _) hz hta hq
  have I := L2H.inv_startH (CX := C8.CX0) (E := C8.E0) (vs := [.ref p.1]) S hpin e0 rfl (.cons rfl .nil) x
  refine wpAny_mono (ht.run [] s1 (L2.start N [.ref p.1]) H _ I hq) (fun fl s' hs => ?_) fun e s' hs => hs
  cases fl with
  | ret u =>
    obtain ⟨v, σ', H', J, rv, q⟩ := hs
    exact ⟨v, H', J.os, J.bare, J.base, J.hok, rv, q⟩
  | next =>
    obtain ⟨σ', H', J, q⟩ := hs
    exact ⟨V.non, H', J.os, J.bare, J.base, J.hok, rfl, q⟩
  | brk =>
    obtain ⟨_, _, _, q⟩ := hs
    exact False.elim q
  | cont =>
    obtain ⟨_, _, _, q⟩ := hs
    exact False.elim q
end
section
variable {X : Cx} {G : Gd}
/-- it is called in the suite -/
theorem pe_word {f a : Addr} {oe : Obj} {c : Exn} {x n : Str} {k i : Nat} {p1 p2 p3 : Pos} {wd : Exn → Str} (Wd : WordOk X.prog X.w X.K X.mg X.base G k f wd) (gx : Gl X x) (mx : X.mg x = some (.ref f)) (kp : PySem.W.keepIn X.K (.ref f) = true) (hr : L2H.RoomH k X.A)
    (hp : (a, oe) ∈ X.pn) (hh : X.A.handled = some (.ref a)) (hz : L2N.Zn (.ref (G.cl c)) none oe) (hf : ∃ vs, oe.data = .fields vs) (hN : X.N[i]? = some n) (hv : Vis X.env.scope n)
    (hdb : (x == ("__debug__" : Str)) = false := by decide) (hd : (n == ("__debug__" : Str)) = false := by decide) (hcd : (n == ("__classdict__" : Str)) = false := by decide) :
    PE X (.Call (.Name x p1) [.Name n p2] [] p3) (fun σ H Q => σ[i]? = some (some (.ref a)) ∧ LamX.Tabs G.T H ∧ ∀ H', Ex G.T H H' → Q (.str (wd c)) H') := ⟨fun pins s σ H Q I h => by
  obtain ⟨hσ, hta, hq⟩ := h
  refine wpAny_Call_Name_kw (ld_glob I gx mx ?_ hdb)
  have ha : PA X [.Name n p2] (tCons (tVar i) tNil) := pa_cons (pe_var hN hv hd hcd) pa_nil
  refine PySem.W.callWith_K (h₀ := X.base) I.ok.mod.kin kp (thn (ha.run p3 pins s σ H (fun vs H1 => vs = [V.ref a] ∧ H = H1) I ⟨.ref a, hσ, rfl, rfl⟩) fun us s1 hh => ?_)
  obtain ⟨vs, H1, I1, r1, ev, eH⟩ := hh
  subst ev
  rw [← eH] at I1
  obtain ⟨u, rfl, ru⟩ := vals1 r1
  cases ru
  refine ⟨I1.kIn, ?_⟩
  obtain ⟨vs, hd⟩ := hf
  obtain ⟨q1, q2, q3, q4, q5⟩ := I1.pin (a, oe) (List.mem_append_left _ hp)
  have rc := Wd c (a, oe) X.A X.stack s1 H Q hr ⟨hh, vs, hd, hz.2.2 vs hd⟩ ⟨q1, q2, fun z => ?_, q5⟩ hz I1.env0 hta hq
  · refine wpAny_call (codeAny_mono rc fun r s2 hq => ?_)
    cases r with
    | error e => exact (show False from hq).elim
    | ok fl =>
      cases fl with
      | ret u => exact I1.after hq
      | next => exact False.elim hq
      | brk => exact False.elim hq
      | cont => exact False.elim hq
  · rcases List.mem_cons.mp (I1.stkSub _ z) with e | e
    · exact q3 e
    · exact q4 e⟩
/-! ### the lambda -/
open LamX in
/-- made: its code object is new, or stands in the table -/
theorem lam_make3 {T : List (Addr × Str)} {pins : List (Addr × Obj)} {σ : L2.St} {H : Hp} {s : Shared} {c P : Addr} {params : Arguments} {body : Expr} {scope : Scope} {pos : Pos} {E : Value → Shared → Prop} {Q : Value → Shared → Prop} (I : Inv X pins σ H s) (TB : TabB X.base X.mg c P) (hcode : X.env.code = .ref c)
    (hm : (P, X.env.qual ++ "<lambda>") ∈ T) (hu : ∀ p ∈ T, p.1 = P → p.2 = X.env.qual ++ "<lambda>") (hT : Tabs T H) (hdef : defaultsOf params X.env = ([], [])) (hfree : ∀ y ∈ scope.names, y.2 = .free → ∃ c, X.env.cells.lookup y.1 = some c)
    (h : ∀ (f c' : Addr) (pm ctv : Value) (H1 : Hp) (s' : Shared), Inv X pins σ H1 s' → Ex T H H1 →
      s'.heap.get? f = some (PySem.W.kla_obj "<lambda>" (X.env.qual ++ "<lambda>") params body scope (cloFrom X.env.cells scope.names []) pm c' ctv) → H1 f = none → f ∉ frs X.stack → H1 c' = some (CodeO c' (X.env.qual ++ "<lambda>")) → Q (.ref f) s') :
    wpAny (model X.prog X.w) X.A (eval (.Lambda params body scope pos) X.env) Q E s := by
  obtain ⟨ps, hP, ht, ha⟩ := hT _ hm
  have bP := TB.bm.keeps I.bk
  have hP' := I.hok P _ hP
  have far : ∀ f, s.heap.objs.size ≤ f → f ∉ frs X.stack := fun f hf z => by
    rcases List.mem_cons.mp (I.stkSub _ z) with e | e
    · rw [e] at hf
      exact Nat.lt_irrefl _ (Nat.lt_of_lt_of_le I.lt hf)
    · exact I.nofs hf e
  refine PySem.W.kla_eval hdef ?_
  cases hc : codeAmong pos ps.toList with
  | some cv =>
    obtain ⟨c', rfl, hco⟩ := ha pos cv hc
    refine PySem.W.kla_makeFunctionHit (mg := X.mg) (c := c) (P := P) (ps := ps) (closure_ok hfree) I.ok.glob (I.mod.glob.keeps I.bk) hcode (TB.code.keeps I.bk) hP' ht hc bP fun ctv h' tk hx hsz => ?_
    exact h h'.objs.size c' ((X.mg "__name__").getD .none) ctv H _ (I.kept (t' := tk) fun b o e => Heap.get?_push_of_some _ (hx b o e)) (Ex.refl H) (Heap.get?_push_size _ rfl) (I.hok.fresh hsz) (far _ hsz) hco
  | none =>
    refine PySem.W.kla_makeFunction (mg := X.mg) (c := c) (P := P) (ps := ps) (closure_ok hfree) I.ok.glob (I.mod.glob.keeps I.bk) hcode (TB.code.keeps I.bk) hP' ht hc TB.gP bP fun c' ctv h' tk hx hge hlt hrec htb => ?_
    obtain ⟨c2, oc, vs, t, e2, hoc, hd, hv⟩ := hrec
    cases e2
    have nC : H c' = none := I.hok.fresh hge
    have hsz : s.heap.objs.size ≤ h'.objs.size := Nat.le_trans hge (Nat.le_of_lt hlt)
    have J := inv_table (t' := tk) (more := #[rawInt pos.line, rawInt pos.col, .ref c']) (h' := h'.push (PySem.W.kla_obj "<lambda>" (X.env.qual ++ "<lambda>") params body scope (cloFrom X.env.cells scope.names []) ((X.mg "__name__").getD .none) c' ctv)) I hP
      (fun b o hb e => Heap.get?_push_of_some _ (hx b o hb e)) (Heap.get?_push_of_some _ htb) hge ⟨oc, vs, t, Heap.get?_push_of_some _ hoc, hd, hv⟩
    have nPc : P ≠ c' := ne_of_none hP nC
    have keep : ∀ b o, H b = some o → b ≠ P → upd (upd H P (.tbl (ps ++ #[rawInt pos.line, rawInt pos.col, .ref c']))) c' (CodeO c' (X.env.qual ++ "<lambda>")) b = some o := fun b o e nb => by
      rw [upd_ne (ne_of_none e nC), upd_ne nb]
      exact e
    have hE : ExtN H (upd (upd H P (.tbl (ps ++ #[rawInt pos.line, rawInt pos.col, .ref c']))) c' (CodeO c' (X.env.qual ++ "<lambda>"))) := fun b o e nt => keep b o e fun z => nt ps (Option.some.inj (e.symm.trans (by rw [z]; exact hP)))
    have eL : (ps ++ #[rawInt pos.line, rawInt pos.col, .ref c']).toList = ps.toList ++ [rawInt pos.line, rawInt pos.col, .ref c'] := by simp
    refine h h'.objs.size c' ((X.mg "__name__").getD .none) ctv _ _ J ⟨hE, fun _ p hp => ?_, fun b qs e => ?_⟩ (Heap.get?_push_size _ rfl) ?_ (far _ hsz) upd_same
    · by_cases hb : p.1 = P
      · rw [hu p hp hb, hb]
        refine ⟨_, by rw [upd_ne nPc, upd_same], by rw [eL]; exact PySem.TriplesOk_snoc _ _ _ _ ht, fun p' cv hcv => ?_⟩
        rw [eL] at hcv
        rcases among_app _ ht hcv with z | z
        · obtain ⟨c0, e1, e2⟩ := ha p' cv z
          exact ⟨c0, e1, hE _ _ e2 codeO_ne⟩
        · exact ⟨c', z, upd_same⟩
      · obtain ⟨qs, a1, a2, a3⟩ := hT p hp
        refine ⟨qs, keep _ _ a1 hb, a2, fun p' cv hcv => ?_⟩
        obtain ⟨c0, e1, e2⟩ := a3 p' cv hcv
        exact ⟨c0, e1, hE _ _ e2 codeO_ne⟩
    · by_cases hb : b = P
      · rw [hb]
        exact ⟨_, by rw [upd_ne nPc, upd_same]⟩
      · exact ⟨qs, keep b _ e hb⟩
    · rw [upd_ne (Nat.ne_of_gt hlt), upd_ne (Nat.ne_of_gt (Nat.lt_of_lt_of_le (Heap.lt_size hP') hsz))]
      exact I.hok.fresh hsz
/-- its body's context -/
abbrev lamC (X : Cx) (A : Around) (outer : List Env) (s : Shared) (H : Hp) (E : XK) (scope : Scope) (f c' : Addr) : Cx :=
  (LamX.lamCx X A outer s H E scope f c').wish fun e s' => wpAny (model X.prog X.w) (A.deeper (LamX.lamEnv X scope s.heap.objs.size f c')) (leaving (LamX.lamEnv X scope s.heap.objs.size f c') e) (fun _ s'' => L2N.CX X.prog X.w outer H s E e s'') (fun e' s'' => L2N.CX X.prog X.w outer H s E e' s'') s'
/-- it is called, in the def that got it -/
theorem pe_actN {CXg : CXT} {pins : List (Addr × Obj)} {σ : L2.St} {H : Hp} {s : Shared} {Eg : XK} {Ng : List Str} {qg : Str} {sg : Scope} {g f c' : Addr} {cdg pm ctv : Value} {params : Arguments} {body : Expr} {scope : Scope} {k i : Nat} {a : Str} {pn : List (Addr × Obj)} {xe : Value → Shared → Prop} {W : WX} {E : XK} {tb : TE} {p1 p2 : Pos}
    (I : Inv X pins σ H s) (L : LamX.LamS X.env.scope scope) (hf : s.heap.get? f = some (PySem.W.kla_obj "<lambda>" (X.env.qual ++ "<lambda>") params body scope (cloFrom X.env.cells scope.names []) pm c' ctv)) (hfn : H f = none) (hfr : f ∉ frs X.stack)
    (hbind : bindArgs (PySem.W.kla_fn "<lambda>" (X.env.qual ++ "<lambda>") params body scope (cloFrom X.env.cells scope.names []) pm (.ref c') ctv) ⟨[], []⟩ = pure [])
    (tk : L2N.Takes ((cxOf CXg X.prog X.w X.K X.mg X.base Ng qg sg g cdg X.A X.stack s H Eg).tr pn xe) W) (hr : Room (k + 1) (X.A.deeper (envOfC qg sg s.heap.objs.size g cdg)))
    (hbody : ∀ (A : Around) (outer : List Env) (s : Shared) (H : Hp), Room k (A.deeper (LamX.lamEnv X scope s.heap.objs.size f c')) → PE (lamC X A outer s H E scope f c') body tb)
    (hN : Ng[i]? = some a) (hv : Vis sg a) (hd : (a == ("__debug__" : Str)) = false := by decide) (hcd : (a == ("__classdict__" : Str)) = false := by decide) :
    PE ((cxOf CXg X.prog X.w X.K X.mg X.base Ng qg sg g cdg X.A X.stack s H Eg).tr pn xe) (.Call (.Name a p1) [] [] p2)
      (fun σZ HZ Q => σZ[i]? = some (some (.ref f)) ∧ HZ c' = some (LamX.CodeO c' (X.env.qual ++ "<lambda>")) ∧ (∀ cls d H', E cls d H' → W cls d σZ H') ∧ tb σ HZ Q) := ⟨fun pinsZ sZ σZ HZ Q IZ h => by
  obtain ⟨hs, hc, hW, ht⟩ := h
  refine wpAny_Call_Name_kw (thn ((pe_var (pos := p1) (i := i) hN hv hd hcd).run pinsZ sZ σZ HZ (fun v H1 => v = .ref f ∧ H1 = HZ) IZ ⟨.ref f, hs, rfl, rfl⟩) fun u s1 ⟨v, H1, I1, r1, q1⟩ => ?_)
  obtain ⟨ev, eH⟩ := q1
  subst ev
  rw [eH] at I1
  obtain rfl : u = Value.ref f := r1
  have of1 := I1.base.keep f _ hf hfn hfr (fun z => nomatch (show f ∈ ([] : List Addr) from z))
  refine PySem.W.callWith_F0 ⟨_, _, _, _, of1⟩ ?_
  obtain ⟨⟨oc, vs, t, hoc, hdc, hvc⟩, _, _⟩ := I1.hok c' _ hc
  have rc : codeAny (model X.prog X.w) (X.A.deeper (envOfC qg sg s.heap.objs.size g cdg)) (.call (.ref f) ⟨[], []⟩) (CR (L2N.CX X.prog X.w) (envOfC qg sg s.heap.objs.size g cdg :: X.stack) X.prog X.w HZ s1 Q E) s1 := by
    refine PySem.W.kla_callFunE hr.depth of1 rfl L.co L.gen rfl ⟨c', oc, vs, t, rfl, hoc, hdc, hvc⟩ ?_
    rw [hbind]
    refine wpAny_pure (wpAny_newFunctionEnv (fun y hy => (L.own y hy).2) (fun y hy => absurd hy (by simp)) (fun h₁ hns hsb => ⟨I1.nolimit.fresh _ hsb, ?_⟩) L.kind)
    have kp : ∀ b o, s1.heap.get? b = some o → h₁.get? b = some o := fun b o e => hsb.extBut b o (Nat.ne_of_lt (Heap.lt_size e)) (Heap.get?_push_of_some _ e)
    have J := (LamX.lam_start2 (A := X.A.deeper (envOfC qg sg s.heap.objs.size g cdg)) (outer := envOfC qg sg s.heap.objs.size g cdg :: X.stack) (E := E) (f := f) (c' := c') (tk := s1.toks + ([] : List (Str × Value)).length) I L I1.env0 hr.hd I1.base hns kp).wish
      (fun e s' => wpAny (model X.prog X.w) ((X.A.deeper (envOfC qg sg s.heap.objs.size g cdg)).deeper (LamX.lamEnv X scope s1.heap.objs.size f c')) (leaving (LamX.lamEnv X scope s1.heap.objs.size f c') e) (fun _ s'' => L2N.CX X.prog X.w (envOfC qg sg s.heap.objs.size g cdg :: X.stack) HZ s1 E e s'') (fun e' s'' => L2N.CX X.prog X.w (envOfC qg sg s.heap.objs.size g cdg :: X.stack) HZ s1 E e' s'') s')
    refine PySem.W.kla_codeExpr (wpAny_mono ((hbody _ _ s1 HZ (hr.deeper _)).run [] _ _ HZ Q J ht) (fun v s' hq => ?_) fun e s' hq => hq)
    obtain ⟨w', H', J', rv, q⟩ := hq
    exact ⟨w', H', J'.os, J'.bare, J'.base, J'.hok, rv, q⟩
  refine wpAny_call (codeAny_mono rc fun r s' hq => ?_)
  cases r with
  | error e => exact tk e s' (L2N.XE.of_call I1 hW hq)
  | ok fl =>
    cases fl with
    | ret u => exact I1.after hq
    | next => exact False.elim hq
    | brk => exact False.elim hq
    | cont => exact False.elim hq⟩
end
theorem takesN0 {X : Cx} : L2N.Takes X (fun _ _ _ _ => False) := fun _ _ x => by
  obtain ⟨_, _, _, _, _, _, _, _, _, _, _, _, _, _, _, _, z⟩ := x
  exact z.elim
/-- the def that tells: try: return a() / except e as n: return xw(n) -/
structure ToldF (P : Program) (w : World) (K : PySem.W.Frag) (mg : Str → Option Value) (base : Heap) (G : Gd) (k : Nat) (wd : Exn → Str) (x a n e xw : Str) (st : Stmt) (g CS fw : Addr) (fdg : FuncData) : Prop where
  d : DefF K mg x st g fdg
  sc : FnScope [a, n] [a] (defScope st)
  bn : Binds K fdg [a] []
  ln : (defScope st).names.lookup n = some .local
  va : Vis (defScope st) a
  ge : (defScope st).names.lookup e = some .globalImplicit
  gw : (defScope st).names.lookup xw = some .globalImplicit
  bd : ∃ p1 p2 p3 p4 p5 p6 p7 p8 p9 p10 : Pos, defBody st = [.Try [.Return (some (.Call (.Name a p1) [] [] p2)) p3] [.ExceptHandler (some (.Name e p4)) (some n) [.Return (some (.Call (.Name xw p5) [.Name n p6] [] p7)) p8] p9] [] [] p10]
  me : mg e = some (.ref CS)
  ex : ∀ c, PySem.W.exmOne K (.ref (G.cl c)) (.ref CS) = some true
  mw : mg xw = some (.ref fw)
  kw : PySem.W.keepIn K (.ref fw) = true
  wo : WordOk P w K mg base G k fw wd
  da : (a == ("__debug__" : Str)) = false ∧ (a == ("__classdict__" : Str)) = false
  dn : (n == ("__debug__" : Str)) = false ∧ (n == ("__classdict__" : Str)) = false
  de : (e == ("__debug__" : Str)) = false
  dw : (xw == ("__debug__" : Str)) = false
def eTold (wd : Exn → Str) (f : DE → R D) : DE → R D := fun ρ => match f ρ with
  | .ok d => .ok d
  | .err c => .ok (.str (wd c))
  | .bad => .bad
section
variable {X : Cx} {G : Gd} {E : XK} {f : DE → R D}
theorem pd_told {k : Nat} {wd : Exn → Str} {x a n e xw : Str} {st : Stmt} {g CS fw c P : Addr} {fdg : FuncData} {params : Arguments} {body : Expr} {scope : Scope} {p lpos pos : Pos} (T : ToldF X.prog X.w X.K X.mg X.base G k wd x a n e xw st g CS fw fdg) {kk : Nat} (hr : Room kk X.A) (hkk : k + 2 ≤ kk) (hg : Gl X x)
    (TB : LamX.TabB X.base X.mg c P) (hcode : X.env.code = .ref c) (hmT : (P, X.env.qual ++ "<lambda>") ∈ G.T) (hu : ∀ p ∈ G.T, p.1 = P → p.2 = X.env.qual ++ "<lambda>") (L : LamX.LamS X.env.scope scope) (hdef : defaultsOf params X.env = ([], []))
    (hbind : ∀ (q : Str) (cl : List (Str × Addr)) (pm cv ctv : Value), bindArgs (PySem.W.kla_fn "<lambda>" q params body scope cl pm cv ctv) ⟨[], []⟩ = pure [])
    (hbody : ∀ (A : Around) (outer : List Env) (s : Shared) (H : Hp) (E : XK) (fl c' : Addr), Room k (A.deeper (LamX.lamEnv X scope s.heap.objs.size fl c')) → PD G E (lamC X A outer s H E scope fl c') body f)
    (hdb : (x == ("__debug__" : Str)) = false := by decide) : PD G E X (.Call (.Name x p) [.Lambda params body scope lpos] [] pos) (eTold wd f) := ⟨fun pins s σ H Q I hq => by
  obtain ⟨ρ, hρ, ho⟩ := hq
  refine wpAny_Call_Name_kw (ld_glob I hg T.d.g ?_ hdb)
  refine PySem.W.callWith_K (h₀ := X.base) I.ok.mod.kin T.d.d.kp ?_ (by rfl) (by rfl)
  show wpAny _ _ (spliced ((false, eval (.Lambda params body scope lpos) X.env) :: backTo pos (starEach [] X.env))) _ _ s
  refine Calls.spliced_cons (lam_make3 I TB hcode hmT hu hρ.1 hdef (L.has I.ok) fun fl c' pm' ctv H1 s' I1 e1 hf hfn hfr hco => ?_)
  refine Calls.spliced_nil ⟨I1.kIn, ?_⟩
  have rc : codeAny (model X.prog X.w) X.A (.call (.ref g) ⟨[.ref fl], []⟩) (CR C8.CX0 X.stack X.prog X.w H1 s' Q C8.E0) s' := by
    have bn := T.bn
    obtain ⟨oc, od, dV, kV, doc, pm, an, cdv, ct, osl, rfl, lk, hcd, _, _⟩ := T.d.d.ex
    obtain ⟨p1, p2, p3, p4, p5, p6, p7, p8, p9, p10, hbd⟩ := T.bd
    refine LamX.run_ofS (CX := C8.CX0) (N := [a, n]) (ps := [a]) (us := [.ref fl]) (vs := [.ref fl]) lk hcd T.sc (hr.mono hkk) I1.env0 (bn s' [.ref fl] I1.kIn rfl) (.cons rfl .nil) rfl fun hr' => ?_
    rw [hbd]
    let ts : Addr → Value → Option Addr → TS := fun aa cls d D σ H => ∃ c, cls = .ref (G.cl c) ∧ d = none ∧ σ[1]? = some (some (.ref aa)) ∧ LamX.Tabs G.T H ∧ ∀ H', Ex G.T H H' → D.rt (.str (wd c)) H'
    let tb : WX → TS := fun W D σZ HZ => ∃ Ech : XK, (∀ cls d H', Ech cls d H' → W cls d σZ H') ∧ σZ[0]? = some (some (.ref fl)) ∧ HZ c' = some (LamX.CodeO c' (X.env.qual ++ "<lambda>")) ∧ tD G Ech X.K f σ HZ D.rt
    have key := L2N.ps_try_as (X := (cxOf C8.CX0 X.prog X.w X.K X.mg X.base [a, n] x (defScope st) g cdv X.A X.stack s' H1 C8.E0).nox) (c := .ref CS) (i := 1) (body := [.Return (some (.Call (.Name a p1) [] [] p2)) p3]) (suite := []) (b₀ := .Return (some (.Call (.Name xw p5) [.Name n p6] [] p7)) p8) (np := p4) (pos := p10) (pos' := p9) (tb := tb) (ts := ts) (Wout := fun _ _ _ _ => False) rfl rfl T.sc.nd rfl T.ln ⟨T.ge, T.de, .inl T.me⟩ takesN0
      (fun W pn xe tk _ => ⟨fun pins2 s2 σ2 H2 D2 I2 h2 => by
        obtain ⟨Ech, hW, h3, h4, h5⟩ := h2
        exact (pss_one (ps_ret (pe_actN (CXg := C8.CX0) (Eg := C8.E0) (Ng := [a, n]) (p1 := p1) (p2 := p2) (i := 0) (E := Ech) (tb := tD G Ech X.K f) I1 L hf hfn hfr (hbind _ _ _ _ _) tk hr' (fun A outer s H hr2 => (show PE (lamC X A outer s H Ech scope fl c') body (tD G Ech X.K f) from hbody A outer s H Ech fl c' hr2)) rfl T.va T.da.1 T.da.2))).run pins2 s2 σ2 H2 D2 I2 ⟨h3, h4, hW, h5⟩⟩)
      (fun aa oe cls d pn hz hfl => ⟨fun pins2 s2 σ2 H2 D2 I2 h2 => by
        obtain ⟨c0, rfl, rfl, h3, h3t, h4⟩ := h2
        have hrh : L2H.RoomH k (X.A.deeper (envOfC x (defScope st) s'.heap.objs.size g cdv)) := (L2H.roomH_of hr').mono (Nat.le_succ k)
        exact (pss_one (ps_ret (pe_word (X := (cxOf C8.CX0 X.prog X.w X.K X.mg X.base [a, n] x (defScope st) g cdv X.A X.stack s' H1 C8.E0).nox.suite aa ((aa, oe) :: pn)) (i := 1) (p1 := p5) (p2 := p6) (p3 := p7) T.wo T.gw T.mw T.kw ⟨hrh.dp, hrh.un⟩ (List.mem_cons_self) rfl hz hfl rfl (.inl T.ln) T.dw T.dn.1 T.dn.2))).run pins2 s2 σ2 H2 D2 I2 ⟨h3, h3t, h4⟩⟩)
    refine ⟨_, (pss_one key).nox, fun cls d H' => ∃ c, cls = .ref (G.cl c) ∧ d = none ∧ LamX.Tabs G.T H' ∧ ∀ H'', Ex G.T H' H'' → Q (.str (wd c)) H'', ?_, rfl, hco, ρ, hρ.ext e1, ?_⟩
    · rintro cls d H' ⟨c0, rfl, rfl, hqt, hq⟩
      exact ⟨true, T.ex c0, fun _ aa _ => ⟨c0, rfl, rfl, rfl, hqt, hq⟩, fun z => nomatch z⟩
    · unfold eTold at ho
      cases hfr : f ρ with
      | bad => rw [hfr] at ho; exact ho
      | ok d => 
        rw [hfr] at ho
        exact fun v H' e' r => ho v H' (e1.trans e') r
      | err c0 =>
        rw [hfr] at ho
        exact fun H' e' => ⟨c0, rfl, rfl, e'.tabs (e1.tabs hρ.1), fun H'' e'' => ho _ H'' (e1.trans (e'.trans e'')) (.str _)⟩
  refine wpAny_call (codeAny_mono rc fun r s2 hq => ?_)
  cases r with
  | error e => exact (show False from hq).elim
  | ok fl =>
    cases fl with
    | ret u => exact I1.after hq
    | next => exact False.elim hq
    | brk => exact False.elim hq
    | cont => exact False.elim hq⟩
end
end DL
set_option Elab.async false
set_option linter.all false
set_option maxRecDepth 100000
set_option maxHeartbeats 4000000
/-! DL19: the word of a refusal's class; defs that hold lambdas. -/
namespace DL
open PySem PySem.Spec PySem.Calls PyProof.Rows L2 RZ
/-- facts of the classes of refusals -/
structure WordF (K : PySem.W.Frag) (mg : Str → Option Value) (G : Gd) (pr : List Exn) : Prop where
  mi : mg "isinstance" = none
  ms : mg "sum" = none
  mt : mg "int" = none
  mv : mg "ValueError" = none
  ca : ∀ c, ExcC K (G.cl c)
  kt : ∀ c d, d ∈ pr → PySem.W.kitOne K (.ref (G.cl c)) (.ref (G.cl d)) = some (decide (c = d))
  kv : ∀ c, PySem.W.kitOne K (.ref (G.cl c)) (.type "ValueError") = some true
def tIs1 (i : Nat) (a : Addr) (b : Bool) : TE := fun σ H Q => σ[i]? = some (some (.ref a)) ∧ Q (.bl b) H
def tIs (i : Nat) (a : Addr) (bs : List Bool) : TA := fun σ H Q => σ[i]? = some (some (.ref a)) ∧ Q (bs.map V.bl) H
def tIsL (i : Nat) (a : Addr) (bs : List Bool) : TE := fun σ H Q => σ[i]? = some (some (.ref a)) ∧ ∀ p, H p = none → Q (.ref p) (upd H p (.lst (bs.map V.bl)))
section
variable {X : Cx} {G : Gd} {pr : List Exn} {a : Addr} {oe : Obj} {c : Exn} {e : Expr} {es : List Expr} {i : Nat} {b : Bool} {bs : List Bool}
theorem pe_isC {n x : Str} {p1 p2 p3 p4 : Pos} (F : WordF X.K X.mg G pr) (hp : (a, oe) ∈ X.pn) (hz : L2N.Zn (.ref (G.cl c)) none oe) (hf : ∃ vs, oe.data = .fields vs) (d : Exn) (gi : Gl X "isinstance") (hN : X.N[i]? = some n) (hv : Vis X.env.scope n) (gx : Gl X x) (mx : X.mg x = some (.ref (G.cl d))) (hpr : d ∈ pr)
    (hd : (n == ("__debug__" : Str)) = false := by decide) (hcd : (n == ("__classdict__" : Str)) = false := by decide) (hxd : (x == ("__debug__" : Str)) = false := by decide)
    (he : starEach [.Name n p2, .Name x p3] X.env = (false, eval (.Name n p2) X.env) :: starEach [.Name x p3] X.env := by rfl) (he2 : starEach [.Name x p3] X.env = [(false, eval (.Name x p3) X.env)] := by rfl) (hpl : (backTo p4 (starEach [.Name x p3] X.env)).any (·.1) = false := by rfl) :
    PE X (.Call (.Name "isinstance" p1) [.Name n p2, .Name x p3] [] p4) (tIs1 i a (decide (c = d))) := by
  refine pe_imp (pe_callB (call_isP hp (F.ca c) hz hf) gi F.mi (by decide +kernel) (pa_cons (pe_var hN hv hd hcd) (pa_cons (pe_glob (v := .ref (G.cl d)) gx mx rfl hxd) pa_nil he2) he) (by decide) (by decide) he hpl) ?_
  rintro σ H Q ⟨h0, q⟩
  exact ⟨_, h0, _, _, _, rfl, fun u r => r, F.kt c d hpr, q⟩
theorem pe_isV {n : Str} {p1 p2 p3 p4 : Pos} (F : WordF X.K X.mg G pr) (hp : (a, oe) ∈ X.pn) (hz : L2N.Zn (.ref (G.cl c)) none oe) (hf : ∃ vs, oe.data = .fields vs) (gi : Gl X "isinstance") (hN : X.N[i]? = some n) (hv : Vis X.env.scope n) (gx : Gl X "ValueError")
    (hd : (n == ("__debug__" : Str)) = false := by decide) (hcd : (n == ("__classdict__" : Str)) = false := by decide)
    (he : starEach [.Name n p2, .Name "ValueError" p3] X.env = (false, eval (.Name n p2) X.env) :: starEach [.Name "ValueError" p3] X.env := by rfl) (he2 : starEach [.Name "ValueError" p3] X.env = [(false, eval (.Name "ValueError" p3) X.env)] := by rfl) (hpl : (backTo p4 (starEach [.Name "ValueError" p3] X.env)).any (·.1) = false := by rfl) :
    PE X (.Call (.Name "isinstance" p1) [.Name n p2, .Name "ValueError" p3] [] p4) (tIs1 i a true) := by
  refine pe_imp (pe_callB (call_isP hp (F.ca c) hz hf) gi F.mi (by decide +kernel) (pa_cons (pe_var hN hv hd hcd) (pa_cons (pe_bltn (v := .ty "ValueError") (u := .type "ValueError") gx F.mv (by decide +kernel) rfl) pa_nil he2) he) (by decide) (by decide) he hpl) ?_
  rintro σ H Q ⟨h0, q⟩
  exact ⟨_, h0, _, _, _, rfl, fun u r => r, F.kv c, q⟩
theorem pis_nil : PA X [] (tIs i a []) := by
  refine pa_imp pa_nil ?_
  rintro σ H Q ⟨_, q⟩
  exact q
theorem pis_cons (he : PE X e (tIs1 i a b)) (hl : PA X es (tIs i a bs)) (hs : starEach (e :: es) X.env = (false, eval e X.env) :: starEach es X.env := by rfl) : PA X (e :: es) (tIs i a (b :: bs)) := by
  refine pa_imp (pa_cons he hl hs) ?_
  rintro σ H Q ⟨h0, q⟩
  exact ⟨h0, h0, q⟩
theorem pe_isL {pos : Pos} (h : PA X es (tIs i a bs)) (hz : bs.length ≤ 100000) : PE X (.List es pos) (tIsL i a bs) := by
  refine pe_imp (pe_lst h) ?_
  rintro σ H Q ⟨h0, q⟩
  exact ⟨h0, small100k (by simpa using hz), q⟩
def tSumR (j : Nat) : TE := fun σ H Q => ∃ (l : Addr) (bs : List Bool), σ[j]? = some (some (.ref l)) ∧ H l = some (.lst (bs.map V.bl)) ∧ Q (.int (cntB bs)) H
/-- sum(..) != 1 or not isinstance(..) -/
theorem pt_wordT {se ve : Expr} {k : Nat} {q1 q2 q3 q4 : Pos} (hs : PE X se (tSumR 1)) (hv : PE X ve (tIs1 0 a true)) (ht : ∀ whole, isTrue ve X.env whole = (do let v ← whole; standAt ve.pos; holding [v] (truthy v)) := by intro _; rfl) :
    PT X (.BoolOp .Or [.Compare se [.NotEq] [.Constant (.int 1) k q1] q2, .UnaryOp .Not ve q3] q4) (fun σ H Q => σ[0]? = some (some (.ref a)) ∧ ∃ (l : Addr) (bs : List Bool), σ[1]? = some (some (.ref l)) ∧ H l = some (.lst (bs.map V.bl)) ∧ Q (!(cntB bs == 1)) H) := by
  refine pt_imp (PW.pt (pw_or (pt_cmpR op_ne hs pe_int (nomark _)) (pw_or1 (pt_not (pt_val hv ht))))) ?_
  rintro σ H Q ⟨h0, l, bs, h1, h2, q⟩
  refine ⟨l, bs, h1, h2, rfl, _, rfl, ?_⟩
  have e : (!decide (V.int (cntB bs) = V.int 1)) = !(cntB bs == 1) := by
    rw [dec_int]
  rw [e]
  cases h : !(cntB bs == 1) with
  | true =>
    rw [h] at q
    exact q
  | false =>
    rw [h] at q
    exact ⟨h0, _, rfl, q⟩
/-- what is left of the word: the words by the place of the flag -/
theorem word_out {ρ : DE} {σ : L2.St} {H H0 : Hp} {fr : DE → R D} {z : Str} {Q : VK} (hr : RepE G X.K H σ ρ) (e0 : Ex G.T H0 H) (he : fr ρ = .ok (.str z)) (hq : ∀ H', Ex G.T H0 H' → Q (.str z) H') : tD G E0 X.K fr σ H Q := by
  refine ⟨ρ, hr, ?_⟩
  rw [he]
  intro v H' e' r
  cases r
  exact hq H' (e0.trans e')
theorem rp_flags {K : PySem.W.Frag} {H : Hp} {l : Addr} {bs : List Bool} (h : H l = some (.lst (bs.map V.bl))) : Rp K H (.ref l) (.list (bs.map PyData.bool)) := by
  refine .lst (.inl h) ?_
  clear h
  induction bs with
  | nil => exact .nil
  | cons b bs ih => exact .cons (.bl b) ih
theorem rep2 {H : Hp} {l : Addr} {bs : List Bool} {v0 : Option V} {r : List (Option V)} (ht : LamX.Tabs G.T H) (h : H l = some (.lst (bs.map V.bl))) : RepE G X.K H (v0 :: some (.ref l) :: r) (none :: some (.list (bs.map PyData.bool)) :: r.map fun _ => none) := by
  refine ⟨ht, fun i d hi => ?_, by simp⟩
  match i, hi with
  | 0, hi => cases hi
  | 1, hi =>
    cases hi
    exact ⟨_, rfl, rp_flags h⟩
  | i + 2, hi =>
    have hi : (r.map fun _ => (none : Option D))[i]? = some (some d) := hi
    rw [List.getElem?_map] at hi
    cases q : r[i]? with
    | none => rw [q] at hi; cases hi
    | some z => rw [q] at hi; cases hi
/-- four flags -/
theorem word4 {y other : Str} {se ve re : Expr} {v2 : Option V} {k1 k2 : Nat} {py lp p0 q1 q2 q3 q4 q5 q6 q7 q8 : Pos} {H : Hp} {Dn : Ends} {fr : DE → R D} {z : Str} (hnd : X.N.Nodup) (hy : X.N[1]? = some y) (hyl : X.env.scope.names.lookup y = some .local)
    (hl : PA X es (tIs 0 a bs)) (hz : bs.length ≤ 100000) (hs : PE X se (tSumR 1)) (hv : PE X ve (tIs1 0 a true)) (hr : PD G E0 X re fr) (hta : LamX.Tabs G.T H) (hq : ∀ H', Ex G.T H H' → Dn.rt (.str z) H')
    (hc : (cntB bs = 1 ∧ fr [none, some (.list (bs.map PyData.bool)), none] = .ok (.str z)) ∨ (cntB bs ≠ 1 ∧ z = other))
    (hsw : swapsWith (.List es lp) (some (.Name y py)) p0.line X.env = pure false := by rfl) (ht : ∀ whole, isTrue ve X.env whole = (do let v ← whole; standAt ve.pos; holding [v] (truthy v)) := by intro _; rfl) :
    ∃ t, PSs X [.Assign [.Name y py] (.List es lp) p0, .If (.BoolOp .Or [.Compare se [.NotEq] [.Constant (.int 1) k1 q1] q2, .UnaryOp .Not ve q3] q4) [.Return (some (.Constant (.str other) k2 q5)) q6] [] q7, .Return (some re) q8] t ∧ t Dn [some (.ref a), none, v2] H := by
  refine ⟨_, pss_cons (ps_set (i := 1) hnd hy (.inl hyl) (pe_isL hl hz) hsw (.inr hyl)) (pss_cons (ps_if (pt_wordT hs hv ht) (pss_one (ps_ret pe_str)) pss_nil) (pss_one (ps_ret hr))), ?_⟩
  refine ⟨rfl, fun p np => ⟨rfl, p, bs, rfl, upd_same, ?_⟩⟩
  have e0 : Ex G.T H (upd H p (.lst (bs.map V.bl))) := Ex.new np
  rcases hc with ⟨h1, h2⟩ | ⟨h1, h2⟩
  · have e : (!(cntB bs == 1)) = false := by rw [h1]; rfl
    rw [e]
    exact word_out (ρ := [none, some (.list (bs.map PyData.bool)), none]) (rep2 (r := [v2]) (e0.tabs hta) upd_same) e0 h2 hq
  · have e : (!(cntB bs == 1)) = true := by simp [h1]
    rw [e]
    have := hq _ e0
    rw [h2] at this
    exact this
/-- eight -/
theorem word8 {y yw other : Str} {es2 ws : List Expr} {bs2 : List Bool} {se ve re : Expr} {k1 k2 : Nat} {py lp p0 py2 py3 lp2 b2 p2 pw lw p3 q1 q2 q3 q4 q5 q6 q7 q8 : Pos} {H : Hp} {Dn : Ends} {fw : DE → R (List D)} {fr : DE → R D} {wl : List D} {z : Str} {v2 v3 : Option V} (hnd : X.N.Nodup) (hy : X.N[1]? = some y) (hyl : X.env.scope.names.lookup y = some .local)
    (hyw : X.N[3]? = some yw) (hywl : X.env.scope.names.lookup yw = some .local) (hyd : (y == ("__debug__" : Str)) = false) (hyc : (y == ("__classdict__" : Str)) = false)
    (hl : PA X es (tIs 0 a bs)) (hl2 : PA X es2 (tIs 0 a bs2)) (hz : (bs ++ bs2).length ≤ 100000) (hs : PE X se (tSumR 1)) (hv : PE X ve (tIs1 0 a true)) (hw : PDA G E0 X ws fw) (hwl : ∀ ρ, fw ρ = .ok wl) (hwz : wl.length ≤ 100000) (hr : PD G E0 X re fr) (hta : LamX.Tabs G.T H) (hq : ∀ H', Ex G.T H H' → Dn.rt (.str z) H')
    (hc : (cntB (bs ++ bs2) = 1 ∧ fr [none, some (.list ((bs ++ bs2).map PyData.bool)), none, some (.list wl)] = .ok (.str z)) ∨ (cntB (bs ++ bs2) ≠ 1 ∧ z = other))
    (hsw : swapsWith (.List es lp) (some (.Name y py)) p0.line X.env = pure false := by rfl) (hsw2 : swapsWith (.BinOp (.Name y py3) .Add (.List es2 lp2) b2) (some (.Name y py2)) p2.line X.env = pure false := by rfl) (hsw3 : swapsWith (.List ws lw) (some (.Name yw pw)) p3.line X.env = pure false := by rfl)
    (ht : ∀ whole, isTrue ve X.env whole = (do let v ← whole; standAt ve.pos; holding [v] (truthy v)) := by intro _; rfl) :
    ∃ t, PSs X [.Assign [.Name y py] (.List es lp) p0, .Assign [.Name y py2] (.BinOp (.Name y py3) .Add (.List es2 lp2) b2) p2, .If (.BoolOp .Or [.Compare se [.NotEq] [.Constant (.int 1) k1 q1] q2, .UnaryOp .Not ve q3] q4) [.Return (some (.Constant (.str other) k2 q5)) q6] [] q7, .Assign [.Name yw pw] (.List ws lw) p3, .Return (some re) q8] t ∧ t Dn [some (.ref a), none, v2, v3] H := by
  have zb : bs.length ≤ 100000 := by simp at hz; omega
  have zb2 : bs2.length ≤ 100000 := by simp at hz; omega
  have hn : ∀ ρ l, fw ρ = .ok l → l.length = wl.length := fun ρ l h => by
    rw [hwl] at h
    cases h
    rfl
  refine ⟨_, pss_cons (ps_set (i := 1) hnd hy (.inl hyl) (pe_isL hl zb) hsw (.inr hyl)) (pss_cons (ps_set (i := 1) hnd hy (.inl hyl) (pe_op op_catL (pe_var (i := 1) hy (.inl hyl) hyd hyc) (pe_isL hl2 zb2)) hsw2 (.inr hyl))
    (pss_cons (ps_if (pt_wordT hs hv ht) (pss_one (ps_ret pe_str)) pss_nil) (pss_cons (ps_set (i := 3) hnd hyw (.inl hywl) (pd_lst hw hn hwz) hsw3 (.inr hywl)) (pss_one (ps_ret hr))))), ?_⟩
  refine ⟨rfl, fun p np => ⟨_, rfl, rfl, fun p2 np2 => ?_⟩⟩
  have n12 : p ≠ p2 := fun e => by
    rw [← e, upd_same] at np2
    cases np2
  refine ⟨p, p2, bs.map V.bl, bs2.map V.bl, rfl, rfl, .inl (by rw [upd_ne n12, upd_same]), .inl upd_same, small100k (by simpa using hz), fun p3 np3 => ⟨rfl, p3, bs ++ bs2, rfl, by rw [upd_same, List.map_append], ?_⟩⟩
  have e0 : Ex G.T H (upd (upd (upd H p (.lst (bs.map V.bl))) p2 (.lst (bs2.map V.bl))) p3 (.lst (bs.map V.bl ++ bs2.map V.bl))) := ((Ex.new np).trans (Ex.new np2)).trans (Ex.new np3)
  rcases hc with ⟨h1, h2⟩ | ⟨h1, h2⟩
  · have e : (!(cntB (bs ++ bs2) == 1)) = false := by rw [h1]; rfl
    rw [e]
    have hrep : RepE G X.K _ [some (.ref a), some (.ref p3), v2, v3] [none, some (.list ((bs ++ bs2).map PyData.bool)), none, none] := rep2 (r := [v2, v3]) (e0.tabs hta) (by rw [upd_same, List.map_append])
    refine ⟨_, hrep, ?_⟩
    have hlst : eLst fw [none, some (.list ((bs ++ bs2).map PyData.bool)), none, none] = .ok (.list wl) := by
      unfold eLst
      rw [hwl]
      rfl
    rw [hlst]
    intro v H' e' r
    refine word_out (ρ := [none, some (.list ((bs ++ bs2).map PyData.bool)), none, some (.list wl)]) ?_ (e0.trans e') h2 hq
    exact repE_set (i := 3) (hrep.ext e') r
  · have e : (!(cntB (bs ++ bs2) == 1)) = true := by simp [h1]
    rw [e]
    have := hq _ e0
    rw [h2] at this
    exact this
end
section
variable {P : Program} {w : World} {K : PySem.W.Frag} {mg : Str → Option Value} {base : Heap} {G : Gd}
/-- a def that holds lambdas -/
theorem okFL {x : Str} {st : Stmt} {fd : FuncData} {N ps : List Str} {k n : Nat} {g : SB} {F : List D → R D} (Df : DefF K mg x st (He.fAd K (x, none)) fd) (Tb : LamX.TabB base mg (He.cT K (x, none)).1 (He.cT K (x, none)).2) (S : FnScope N ps (defScope st)) (hn : ps.length = n) (hlen : ps.length ≤ N.length) (hF : F = runD N.length g)
    (hbn : ∀ (kV doc pm : Value) (an : Option Addr) (cdv ct : Value) (us : List Value), us.length = ps.length → bindArgs (PySem.W.fnOf x x (defArgs st) (defBody st) (defScope st) .none kV doc pm an cdv ct) ⟨us, []⟩ = pure (ps.zip us))
    (hb : ∀ (c : Addr) (A : Around) (outer : List Env) (s : Shared) (H : Hp) (E : XK), LamX.TabB base mg c (He.cT K (x, none)).2 → Room k (A.deeper (envOfC x (defScope st) s.heap.objs.size (He.fAd K (x, none)) (.ref c))) →
      PSsD G E (cxOf (L2N.CX P w) P w K mg base N x (defScope st) (He.fAd K (x, none)) (.ref c) A outer s H E) (defBody st) g) : OkF P w K mg base G x (k + 1) n ps (He.fAd K (x, none)) fd F := by
  subst hF
  subst hn
  refine ⟨?_, Df.g, Df.d.kp, Df.d.bindsN hbn⟩
  obtain ⟨oc, od, dV, kV, doc, pm, an, cdv, ct, osl, rfl, lk, hcd, _, _⟩ := Df.d.ex
  obtain ⟨c, rfl⟩ := He.codeIn_ref hcd
  have hc : (He.cT K (x, none)).1 = c := He.codeOf_eq lk rfl
  rw [hc] at Tb
  refine fn_of lk hcd S (fun vs H Q E h => h.1) fun A outer s H vs Q E hr h => ⟨_, hb c A outer s H E Tb hr, ?_⟩
  obtain ⟨hl, ht, ds, hd, ho⟩ := h
  refine ⟨H, _, _, _, start_rep (by omega) ht hd, ?_⟩
  unfold runD at ho
  cases hg : g (startD N.length ds) with
  | bad => rw [hg] at ho; exact ho.elim
  | err c => rw [hg] at ho; exact ho
  | ok fl =>
    rw [hg] at ho
    cases fl with
    | nx ρ => exact fun σ H' ad L r => ho .non H' r.exH .non
    | rt d => exact ho
    | ro ds => exact fun a vs H' e ha r => ho (.ref a) H' (e.trans (hid_sub.ex)) (.lst (.inl ha) ((hid_sub.ex (T := G.T)).rps r))
    | bk ρ => exact ho.elim
    | ct ρ => exact ho.elim
end
end DL
set_option Elab.async false
set_option linter.all false
set_option maxRecDepth 100000
set_option maxHeartbeats 4000000
/-! DL20: the classes' facts as one Bool; tables of several defs. -/
namespace DL
open PySem PySem.Spec PySem.Calls PyProof.Rows L2 RZ
def exns : List Exn := [.badRule, .badBill, .noRule, .badText, .badGood, .tooFew, .noReceipt, .nothing]
theorem mem_exns (c : Exn) : c ∈ exns := by cases c <;> decide
def excCB (K : PySem.W.Frag) (D : Addr) : Bool :=
  decide (PySem.W.findIn K (.ref D) "__getattribute__" = some (some (.builtin "BaseException.__getattribute__"))) && (decide (PySem.W.findIn K (.ref D) "__getattr__" = some none) && (decide (PySem.W.subIn K (.ref D) (.type "BaseException") = some true) && (PySem.W.hasDictIn K D &&
  (decide (PySem.W.findIn K (.ref D) "__class__" = some (some (.builtin "object.__class__"))) && (decide (PySem.W.specialIn K (.builtin "object.__class__") "__get__" = some (some (.builtin "getset_descriptor.__get__"))) && (decide (PySem.W.takesIn K (.builtin "object.__class__") = some true) && decide (PySem.W.mroIn K D (.type "object") = some true)))))))
theorem excCB_ok {K : PySem.W.Frag} {D : Addr} (h : excCB K D = true) : ExcC K D := by
  unfold excCB at h
  obtain ⟨h1, h⟩ := He.ba h
  obtain ⟨h2, h⟩ := He.ba h
  obtain ⟨h3, h⟩ := He.ba h
  obtain ⟨h4, h⟩ := He.ba h
  obtain ⟨h5, h⟩ := He.ba h
  obtain ⟨h6, h⟩ := He.ba h
  obtain ⟨h7, h8⟩ := He.ba h
  exact ⟨of_decide_eq_true h1, of_decide_eq_true h2, of_decide_eq_true h3, h4, of_decide_eq_true h5, of_decide_eq_true h6, of_decide_eq_true h7, of_decide_eq_true h8⟩
def wordB (K : PySem.W.Frag) (cl : Exn → Addr) (CS : Addr) (pr : List Exn) : Bool := exns.all fun c => excCB K (cl c) && (decide (PySem.W.kitOne K (.ref (cl c)) (.type "ValueError") = some true) && (decide (PySem.W.exmOne K (.ref (cl c)) (.ref CS) = some true) && pr.all fun d => decide (PySem.W.kitOne K (.ref (cl c)) (.ref (cl d)) = some (decide (c = d)))))
theorem wordB_ok {K : PySem.W.Frag} {cl : Exn → Addr} {CS : Addr} {pr : List Exn} (h : wordB K cl CS pr = true) : (∀ c, ExcC K (cl c)) ∧ (∀ c, PySem.W.kitOne K (.ref (cl c)) (.type "ValueError") = some true) ∧ (∀ c, PySem.W.exmOne K (.ref (cl c)) (.ref CS) = some true) ∧ ∀ c d, d ∈ pr → PySem.W.kitOne K (.ref (cl c)) (.ref (cl d)) = some (decide (c = d)) := by
  have key := fun c => He.ba (List.all_eq_true.mp h c (mem_exns c))
  refine ⟨fun c => excCB_ok (key c).1, fun c => of_decide_eq_true (He.ba (key c).2).1, fun c => of_decide_eq_true (He.ba (He.ba (key c).2).2).1, fun c d hd => of_decide_eq_true (List.all_eq_true.mp (He.ba (He.ba (key c).2).2).2 d hd)⟩
theorem WordOk.mono {P : Program} {w : World} {K : PySem.W.Frag} {mg : Str → Option Value} {base : Heap} {G : Gd} {j k : Nat} {f : Addr} {wd : Exn → Str} (h : WordOk P w K mg base G j f wd) (hj : j ≤ k) : WordOk P w K mg base G k f wd :=
  fun c p A outer s H Q hr => h c p A outer s H Q (hr.mono hj)
theorem tab_one : ∀ {T : List (Addr × Str)} {P : Addr} {q : Str}, (T.map fun p => p.1).Nodup → (P, q) ∈ T → ∀ p ∈ T, p.1 = P → p.2 = q
  | [], _, _, _, h => nomatch h
  | a :: T, P, q, nd, h => by
    rw [List.map_cons, List.nodup_cons] at nd
    intro p hp e
    rcases List.mem_cons.mp h with h1 | h1
    · rcases List.mem_cons.mp hp with h2 | h2
      · rw [h2, ← h1]
      · refine absurd (List.mem_map.mpr ⟨p, h2, ?_⟩) nd.1
        rw [e, ← h1]
    · rcases List.mem_cons.mp hp with h2 | h2
      · refine absurd (List.mem_map.mpr ⟨(P, q), h1, ?_⟩) nd.1
        rw [← e, h2]
      · exact tab_one nd.2 h1 p h2 e
def tdK (wd : Exn → Str) : R D → R D
  | .ok d => .ok d
  | .err c => .ok (.str (wd c))
  | .bad => .bad
theorem told_a {wd : Exn → Str} {f : DE → R D} {r : DE} : eTold wd f r = tdK wd (f r) := by
  unfold eTold tdK
  cases f r <;> rfl
theorem told_ok {wd : Exn → Str} (d : D) : tdK wd (.ok d) = .ok d := rfl
theorem told_err {wd : Exn → Str} (c : Exn) : tdK wd (.err c) = .ok (.str (wd c)) := rfl
def tabL (K : PySem.W.Frag) (x : Str) : Addr × Str := ((He.cT K (x, none)).2, x ++ ".<locals>." ++ "<lambda>")
end DL
set_option Elab.async false
set_option linter.all false
set_option maxRecDepth 100000
set_option maxHeartbeats 4000000
/-! DL21: defs as values; what is not read. -/
namespace DL
open PySem PySem.Spec PySem.Calls PyProof.Rows L2 RZ
def fnD (x : Str) : D := .dict [(.none, .str x)]
/-- what is not read: nothing is claimed of it -/
def sBad : SB := fun _ => .bad
theorem sbad_a {ρ : SE} : sBad ρ = .bad := rfl
def fnT (tbl : List (Str × (List D → R D))) : D → Option (List D → R D)
  | .dict [(.none, .str x)] => tbl.lookup x
  | _ => none
def cvK (tbl : List (Str × (List D → R D))) (fs : DE → R (List D)) (ρ : DE) (d : D) : R D := match fnT tbl d with
  | some F => (fs ρ).bind F
  | none => .bad
def eCallV (tbl : List (Str × (List D → R D))) (i : Nat) (fs : DE → R (List D)) : DE → R D := fun ρ => (eVar i ρ).bind (cvK tbl fs ρ)
theorem fnT_some {tbl : List (Str × (List D → R D))} {d : D} {F : List D → R D} (h : fnT tbl d = some F) : ∃ x, d = .dict [(.none, .str x)] ∧ tbl.lookup x = some F := by
  unfold fnT at h
  split at h
  · exact ⟨_, rfl, h⟩
  · cases h
theorem rp_fn {K : PySem.W.Frag} {H : Hp} {v : V} {x : Str} (h : Rp K H v (.dict [(.none, .str x)])) : v = .ref (He.ga K x) := by
  cases h with
  | fn x => rfl
  | @dic a kvs ds _ q1 q2 q3 =>
    cases kvs with
    | nil => cases q3
    | cons p kvs =>
      cases ds with
      | nil => cases q3
      | cons d ds =>
        rw [List.map_cons, List.zip_cons_cons] at q3
        have e : (PyData.none, PyData.str x) = (keyD p.1, d) := (List.cons.inj q3).1
        have e1 : PyData.none = keyD p.1 := congrArg Prod.fst e
        cases hp : p.1 <;> rw [hp] at e1 <;> cases e1
section
variable {G : Gd} {E : XK} {X : Cx} {e : Expr} {es : List Expr} {fs : DE → R (List D)} {pos : Pos}
theorem pd_fn {x : Str} {p : Pos} (hm : X.mg x = some (.ref (He.ga X.K x))) (hg : Gl X x := by rfl) (hdb : (x == ("__debug__" : Str)) = false := by decide) : PD G E X (.Name x p) (eC (fnD x)) :=
  pd_c (pe_glob (v := .ref (He.ga X.K x)) hg hm rfl hdb) fun H => .fn x
end
def TbOk (P : Program) (w : World) (K : PySem.W.Frag) (mg : Str → Option Value) (base : Heap) (G : Gd) (k m : Nat) (tbl : List (Str × (List D → R D))) : Prop :=
  ∀ x F, tbl.lookup x = some F → ∃ j ps fd, j ≤ k ∧ OkF P w K mg base G x j m ps (He.ga K x) fd F
section
variable {P : Program} {w : World} {K : PySem.W.Frag} {mg : Str → Option Value} {base : Heap} {G : Gd} {k m : Nat}
theorem tb_nil : TbOk P w K mg base G k m [] := fun x F h => by cases h
theorem tb_cons {x : Str} {j : Nat} {ps : List Str} {fd : FuncData} {F : List D → R D} {tbl : List (Str × (List D → R D))} (o : OkF P w K mg base G x j m ps (He.ga K x) fd F) (hj : j ≤ k) (t : TbOk P w K mg base G k m tbl) : TbOk P w K mg base G k m ((x, F) :: tbl) := fun y F2 h => by
  rw [List.lookup_cons] at h
  split at h
  · rename_i e
    rw [beq_iff_eq] at e
    subst e
    cases h
    exact ⟨j, ps, fd, hj, o⟩
  · exact t y F2 h
end
section
variable {G : Gd} {E : XK} {X : Cx} {e : Expr} {es : List Expr} {fs : DE → R (List D)} {pos : Pos}
theorem pd_callV {tbl : List (Str × (List D → R D))} {n : Str} {i k m : Nat} {p : Pos} (T : TbOk X.prog X.w X.K X.mg X.base G k m tbl) (hr : Room k X.A) (hx : Passes (L2N.CX X.prog X.w) X E) (ha : PDA G E X (e :: es) fs) (hn : ∀ ρ l, fs ρ = .ok l → l.length = m)
    (hN : X.N[i]? = some n := by rfl) (hv : Vis X.env.scope n := by first | exact Or.inl rfl | exact Or.inr (Or.inl rfl) | exact Or.inr (Or.inr rfl)) (hd : (n == ("__debug__" : Str)) = false := by decide) (hcd : (n == ("__classdict__" : Str)) = false := by decide)
    (he : starEach (e :: es) X.env = (false, eval e X.env) :: starEach es X.env := by rfl) (hpl : (backTo pos (starEach es X.env)).any (·.1) = false := by rfl) : PD G E X (.Call (.Name n p) (e :: es) [] pos) (eCallV tbl i fs) := ⟨fun pins s σ H Q I hq => by
  obtain ⟨ρ, hρ, ho⟩ := hq
  unfold eCallV at ho
  have hi : ∃ d, ρ[i]? = some (some d) := by
    unfold eVar at ho
    split at ho
    · exact ⟨_, by assumption⟩
    · exact ho.elim
  obtain ⟨d, hi⟩ := hi
  have hev : eVar i ρ = .ok d := by
    unfold eVar
    rw [hi]
  rw [hev] at ho
  have ho : Out G E (Rp X.K) H (cvK tbl fs ρ d) Q := ho
  unfold cvK at ho
  cases hF : fnT tbl d with
  | none =>
    rw [hF] at ho
    exact ho.elim
  | some F =>
    rw [hF] at ho
    have ho3 : Out G E (Rp X.K) H ((fs ρ).bind F) Q := ho
    obtain ⟨x, rfl, hl⟩ := fnT_some hF
    obtain ⟨j, ps, fd, hj, c⟩ := T x F hl
    obtain ⟨v, h1, h2⟩ := hρ.2.1 i _ hi
    have ev := rp_fn h2
    subst ev
    refine wpAny_Call_Name_kw (thn ((pe_var (pos := p) (i := i) hN hv hd hcd).run pins s σ H (fun v H1 => v = .ref (He.ga X.K x) ∧ H1 = H) I ⟨.ref (He.ga X.K x), h1, rfl, rfl⟩) fun u s1 ⟨v, H1, I1, r1, q1⟩ => ?_)
    obtain ⟨ev, eH⟩ := q1
    subst ev
    rw [eH] at I1
    obtain rfl : u = Value.ref (He.ga X.K x) := r1
    have hA : tDA G E X.K fs σ H fun vs H1 => spD G X.K m F (vs ++ []) H1 Q E := by
      refine ⟨ρ, hρ, (Out.bind (rel := RpAll X.K) ho3).mono ?_⟩
      rintro xs H1 e1 - ⟨ds, hds, _, hx, ho⟩
      refine ⟨?_, e1.tabs hρ.1, ds, by rw [List.append_nil]; exact hx, ho⟩
      rw [List.append_nil, RpAll.len hx]
      exact hn ρ ds hds
    refine PySem.W.callWith_K (h₀ := X.base) I1.ok.mod.kin c.kp (thn (ha.run pos pins s1 σ H _ I1 hA) fun us s2 ⟨vs, H2, I2, r, q⟩ => ⟨I2.kIn, ?_⟩) he hpl
    exact run_fn c.fn (hr.mono hj) c.bn .nil hx I2 r q⟩
theorem psd_bad {s : Stmt} : PSD G E X s sBad := ⟨fun _ _ _ _ _ _ h => by
  obtain ⟨_, _, _, _, _, h⟩ := h
  exact (show False from h).elim⟩
theorem pssd_bad {s : List Stmt} : PSsD G E X s sBad := ⟨fun _ _ _ _ _ _ h => by
  obtain ⟨_, _, _, _, _, h⟩ := h
  exact (show False from h).elim⟩
end
theorem callv_a {tbl : List (Str × (List D → R D))} {i : Nat} {fs : DE → R (List D)} {r : DE} : eCallV tbl i fs r = kD (cvK tbl fs r) (eVar i r) := bind_k _ _
theorem cv_k {tbl : List (Str × (List D → R D))} {fs : DE → R (List D)} {r : DE} {x : Str} {F : List D → R D} (h : tbl.lookup x = some F) : cvK tbl fs r (fnD x) = kD F (fs r) := by
  have e : fnT tbl (fnD x) = some F := h
  unfold cvK
  rw [e]
  exact bind_k _ _
end DL
set_option Elab.async false
set_option linter.all false
set_option maxRecDepth 100000
set_option maxHeartbeats 4000000
/-! DL22: x.split(y), x.partition(y), x.join(l). -/
namespace DL
open PySem PySem.Spec PySem.Calls PyProof.Rows L2 RZ
def oSplit (x : Str) : D → R D
  | .str y => if (y.length == 0) = false ∧ x.length ≤ 100000 then .ok (.list ((Txt.split x y).map PyData.str)) else .bad
  | _ => .bad
def oPart (x : Str) : D → R D
  | .str y => if (y.length == 0) = false ∧ x.length ≤ 100000 then .ok (.tuple [.str (Txt.partition x y).1, .str (Txt.partition x y).2.1, .str (Txt.partition x y).2.2]) else .bad
  | _ => .bad
def oJoin (x : Str) : D → R D
  | .list ds => (match strsOf ds with
    | some ys => if (ys.map (·.length)).sum + ys.length * x.length ≤ 16777216 then .ok (.str (Txt.join x ys)) else .bad
    | none => .bad)
  | _ => .bad
def txK (o : Str → D → R D) (g : DE → R D) (ρ : DE) : D → R D
  | .str x => kD (o x) (g ρ)
  | _ => .bad
def eTx (o : Str → D → R D) (f g : DE → R D) : DE → R D := fun ρ => (f ρ).bind (txK o g ρ)
theorem tx_a {o : Str → D → R D} {f g : DE → R D} {r : DE} : eTx o f g r = kD (txK o g r) (f r) := bind_k _ _
theorem tx_k {o : Str → D → R D} {g : DE → R D} {r : DE} (x : Str) : txK o g r (.str x) = kD (o x) (g r) := rfl
theorem rp_strs {K : PySem.W.Frag} {H : Hp} : ∀ ys : List Str, RpAll K H (ys.map V.str) (ys.map PyData.str)
  | [] => .nil
  | y :: ys => .cons (.str y) (rp_strs ys)
section
variable {G : Gd} {E : XK} {X : Cx} {a b : Expr} {f g : DE → R D}
theorem pd_tx {o : Str → D → R D} {r : V → List V → Hp → VK → Prop} {e : Expr} (pe : PE X e (tM1 r (tD G E X.K f) (tD G E X.K g)))
    (ok : ∀ (H : Hp) (x : Str) (v : V) (d : D) (Q : VK), Rp X.K H v d → Out G E (Rp X.K) H (o x d) Q → r (.str x) [v] H Q) : PD G E X e (eTx o f g) := by
  refine pe_imp pe ?_
  rintro σ H Q ⟨ρ, hr, ho⟩
  unfold eTx at ho
  refine ⟨ρ, hr, (Out.bind (rel := Rp X.K) ho).mono ?_⟩
  rintro x H1 e1 - ⟨d1, hd1, _, hx, ho⟩
  cases d1 with
  | str z =>
    cases hx
    refine ⟨⟨z, rfl⟩, ρ, hr.ext e1, ?_⟩
    have ho : Out G E (Rp X.K) H1 (kD (o z) (g ρ)) Q := ho
    rw [← bind_k] at ho
    refine (Out.bind (rel := Rp X.K) ho).mono ?_
    rintro y H2 e2 - ⟨d2, hd2, _, hy, ho⟩
    exact ok H2 z y d2 Q hy ho
  | _ => exact ho.elim
theorem pd_split {apos pos : Pos} (ha : PD G E X a f) (hb : PD G E X b g) (hs : starEach [b] X.env = [(false, eval b X.env)] := by rfl) (hbase : attributeBase a "split" X.env (eval a X.env) = eval a X.env := by rfl) (hline : (apos.endLine == pos.line) = true := by rfl) :
    PD G E X (.Call (.Attribute a "split" apos) [b] [] pos) (eTx oSplit f g) := by
  refine pd_tx (pe_split ha hb hs hbase hline) ?_
  intro H x v d Q h ho
  cases d with
  | str y =>
    cases h
    have ho : Out G E (Rp X.K) H (if (y.length == 0) = false ∧ x.length ≤ 100000 then R.ok (PyData.list ((Txt.split x y).map PyData.str)) else .bad) Q := ho
    by_cases hz : (y.length == 0) = false ∧ x.length ≤ 100000
    · rw [if_pos hz] at ho
      exact ⟨x, y, rfl, rfl, hz.1, Nat.le_trans (Nat.add_le_add_right hz.2 2) (by decide), fun p hp => ho _ _ (Ex.new hp) (.lst (.inl upd_same) (rp_strs _))⟩
    · rw [if_neg hz] at ho
      exact ho.elim
  | _ => exact ho.elim
theorem pd_part {apos pos : Pos} (ha : PD G E X a f) (hb : PD G E X b g) (hs : starEach [b] X.env = [(false, eval b X.env)] := by rfl) (hbase : attributeBase a "partition" X.env (eval a X.env) = eval a X.env := by rfl) (hline : (apos.endLine == pos.line) = true := by rfl) :
    PD G E X (.Call (.Attribute a "partition" apos) [b] [] pos) (eTx oPart f g) := by
  refine pd_tx (pe_partition ha hb hs hbase hline) ?_
  intro H x v d Q h ho
  cases d with
  | str y =>
    cases h
    have ho : Out G E (Rp X.K) H (if (y.length == 0) = false ∧ x.length ≤ 100000 then R.ok (PyData.tuple [.str (Txt.partition x y).1, .str (Txt.partition x y).2.1, .str (Txt.partition x y).2.2]) else .bad) Q := ho
    by_cases hz : (y.length == 0) = false ∧ x.length ≤ 100000
    · rw [if_pos hz] at ho
      exact ⟨x, y, rfl, rfl, hz.1, Nat.le_trans hz.2 (by decide), fun p hp => ho _ _ (Ex.new hp) (.tup (.inl (.inl upd_same)) (.cons (.str _) (.cons (.str _) (.cons (.str _) .nil))))⟩
    · rw [if_neg hz] at ho
      exact ho.elim
  | _ => exact ho.elim
theorem pd_join {apos pos : Pos} (ha : PD G E X a f) (hb : PD G E X b g) (hs : starEach [b] X.env = [(false, eval b X.env)] := by rfl) (hbase : attributeBase a "join" X.env (eval a X.env) = eval a X.env := by rfl) (hline : (apos.endLine == pos.line) = true := by rfl) :
    PD G E X (.Call (.Attribute a "join" apos) [b] [] pos) (eTx oJoin f g) := by
  refine pd_tx (pe_join ha hb hs hbase hline) ?_
  intro H x v d Q h ho
  cases d with
  | list ds =>
    have ho : Out G E (Rp X.K) H (match strsOf ds with
      | some ys => if (ys.map (·.length)).sum + ys.length * x.length ≤ 16777216 then R.ok (PyData.str (Txt.join x ys)) else .bad
      | none => .bad) Q := ho
    cases hs : strsOf ds with
    | none => rw [hs] at ho; exact ho.elim
    | some ys =>
      rw [hs] at ho
      have ho : Out G E (Rp X.K) H (if (ys.map (·.length)).sum + ys.length * x.length ≤ 16777216 then R.ok (PyData.str (Txt.join x ys)) else .bad) Q := ho
      by_cases hz : (ys.map (·.length)).sum + ys.length * x.length ≤ 16777216
      · rw [if_pos hz] at ho
        cases h with
        | lst a1 b1 =>
          rw [strsOf_eq hs] at b1
          rw [strs_rp b1] at a1
          exact ⟨x, _, ys, rfl, rfl, .inl (.inl a1), hz, ho _ H (Ex.refl H) (.str _)⟩
      · rw [if_neg hz] at ho
        exact ho.elim
  | _ => exact ho.elim
end
end DL
set_option Elab.async false
set_option linter.all false
set_option maxRecDepth 100000
set_option maxHeartbeats 4000000
/-! DL23: a comprehension whose element may raise. -/
namespace DL
open PySem PySem.Spec PySem.Calls PyProof.Rows L2 RZ
section
variable {X : Cx} {E : XK} {pins : List (Addr × Obj)} {σ : L2.St} {H : Hp} {s s' : Shared} {ce : Env} {u acc : Value} {use : Option (Value → Sem Unit)} {Qf : Value → Shared → Prop}
/-- what a call let out within a comprehension's block goes on in the def's own air -/
theorem comp_fails (hs : X.stack = X.env :: X.outer) (hf : X.env.frame = some X.env.locals) (tk : L2N.Takes X (fun cls d _ H => E cls d H)) (J : Inv X pins σ H s) (hce : ce.frame = X.env.frame) (hC : ∃ m, s.heap.Ns ce.locals m) (f : FpOk X pins H ce.locals)
    (c : L2N.CX X.prog X.w X.stack H s E u s') : notedBy (model X.prog X.w) X.A ce (fun e s' => compEnds (model X.prog X.w) X.A X.xe use Qf acc ce (.error e) s') u s' := by
  obtain ⟨m, o, es, ep, ho, hd, rest⟩ := hC
  obtain ⟨fH, fL, fF, fS, fX, fP⟩ := f
  obtain ⟨a, B, H', cls, d, rfl, fl, hok, ub, na, os, ag, hE⟩ := c
  have nfr : ce.locals ∉ frs X.stack := by
    rw [hs]
    intro hm
    rw [show frs (X.env :: X.outer) = X.env.locals :: frs X.outer by simp [frs, hf]] at hm
    rcases List.mem_cons.mp hm with h | h
    · exact fL h
    · exact fF h
  have hfr : X.A.frames = some (X.env :: X.outer) := by rw [J.ok.frames, hs]
  have hC' : s'.heap.get? ce.locals = some o := fl.1 _ _ (ub.keep _ o ho fH nfr)
  have nfd : ∀ vs, o.data ≠ .fields vs := fun vs e => by rw [hd] at e; cases e
  have HC : H' ce.locals = none := ub.free _ o ho fH
  -- the state without the exception
  obtain ⟨G, g1, g2⟩ := L2.restrict s'.heap fun b => ((B.get? b).isSome || decide (b ∈ frs X.stack)) && !(b == ce.locals)
  obtain ⟨B2, b1, b2⟩ := L2.restrict B fun b => !(b == ce.locals)
  have st : B.StaysIn s'.heap := fl.1
  have nbC : ∀ b, b ≠ ce.locals → (!(b == ce.locals)) = true := fun b h => by simpa using h
  have gB : ∀ b o, b ≠ ce.locals → B.get? b = some o → G.get? b = some o := fun b o hb e => by
    rw [g1 b (by simp [e, hb])]
    exact st b o e
  have gF : ∀ b, b ∈ frs X.stack → G.get? b = s'.heap.get? b := fun b hb => g1 b (by simp [hb]; exact fun h => nfr (h ▸ hb))
  have og : ∀ b o, G.get? b = some o → s'.heap.get? b = some o ∧ b ≠ ce.locals ∧ ((B.get? b).isSome = true ∨ b ∈ frs X.stack) := fun b o e => by
    cases q : ((B.get? b).isSome || decide (b ∈ frs X.stack)) && !(b == ce.locals) with
    | false => rw [g2 b q] at e; cases e
    | true =>
      rw [g1 b q] at e
      rw [Bool.and_eq_true] at q
      exact ⟨e, by simpa using q.2, by simpa [Bool.or_eq_true] using q.1⟩
  have oB : ∀ b o, B2.get? b = some o → b ≠ ce.locals ∧ B.get? b = some o := fun b o e => by
    cases q : !(b == ce.locals) with
    | false => rw [b2 b q] at e; cases e
    | true =>
      rw [b1 b q] at e
      exact ⟨by simpa using q, e⟩
  have I2 : Inv X pins σ H' { s with heap := G, gens := s'.gens, drawn := s'.drawn, toks := s'.toks } := by
    refine J.call (ch := [ce.locals]) ⟨fun b o e n hb hc => gB b o (by simpa using hc) (ub.keep b o e n hb), fun b o e n hb hc => ?_, fun b o e n _ => ub.free b o e n, fun b o e hc => ?_, ub.tups, ub.frzs, ub.tbls⟩ ?_ ag (fun b z => ?_)
    · obtain ⟨sl, q⟩ := ub.slot b o e hb
      exact ⟨sl, by rw [gF b hb]; exact q⟩
    · by_cases hb : b ∈ frs X.stack
      · obtain ⟨sl, q⟩ := ub.slot b o e hb
        exact ⟨_, by rw [gF b hb]; exact q⟩
      · obtain ⟨o', q⟩ := ub.there b o e hb
        exact ⟨o', gB b o' (by simpa using hc) q⟩
    · intro b w q
      exact (hok b w q).stay (fun c v hc r => gB c v (fun z => by
        subst z
        rcases hc with hc | hc
        · rw [hc, q] at HC; cases HC
        · rw [hc] at HC; cases HC) r) (fun _ r => r) fun _ _ r => r
    · obtain rfl : b = ce.locals := by simpa using z
      exact ⟨fS, fL, fX, fP⟩
  have nb2 : ∀ b o, G.get? b = some o → b ∉ frs X.stack → B2.get? b = some o := fun b o e hb => by
    obtain ⟨e', hn, h⟩ := og b o e
    rcases h with h | h
    · obtain ⟨o', q⟩ := Option.isSome_iff_exists.mp h
      have z := st b o' q
      rw [e'] at z; cases z
      rw [b1 b (nbC b hn)]
      exact q
    · exact absurd h hb
  unfold notedBy
  show wpAny _ _ (noteFrame (.ref a) ce) _ _ _
  have en : noteFrame (.ref a) ce = noteFrame (.ref a) X.env := by
    unfold noteFrame PySem.frameOf
    rw [hce]
  rw [en]
  have fl' : HandSPX.FlyingZ B (X.env :: X.outer) a (L2N.Zn cls d) s'.heap := by rw [← hs]; exact fl
  refine PXN.looks_onZ L2N.Zn.steady hfr hf fl' fun h1 held up1 => ?_
  show CompFails (model X.prog X.w) X.A X.xe ce (.ref a) { s' with heap := h1 }
  obtain ⟨sl, hC1⟩ := up1 _ o hC' nfd
  refine ⟨m, ⟨_, es, ep, hC1, hd, rest⟩, fun h' m' hn' sb => ?_⟩
  obtain ⟨f1, f2, f3, oe, vs, T, oT, ts, he, hz, hd2, hv, hnT, hTe, hT, hdT, h3⟩ := held
  have nea : a ≠ ce.locals := fun z => by
    rw [z, hC1] at he
    cases he
    exact nfd _ hd2
  have neT : T ≠ ce.locals := fun z => by
    rw [z, hC1] at hT
    cases hT
    exact nfd _ hdT
  have up2 : G.UpToSlots h' := fun b o e hnf => by
    obtain ⟨e', hn, _⟩ := og b o e
    obtain ⟨sl, q⟩ := up1 b o e' hnf
    exact ⟨sl, (sb.2 b hn).trans q⟩
  have held2 : HandSPX.HeldZ B2 (X.env :: X.outer) a (L2N.Zn cls d) X.env.locals h' := by
    refine ⟨fun b o e => ?_, ?_, ?_, oe, vs, T, oT, ts, (sb.2 a nea).trans he, hz, hd2, hv, ?_, hTe, (sb.2 T neT).trans hT, hdT, h3⟩
    · obtain ⟨hn, q⟩ := oB b o e
      exact (sb.2 b hn).trans (f1 b o q)
    · rw [b1 a (nbC a nea)]
      exact f2
    · have z := I2.stack
      rw [hs] at z
      refine Heap.FunFrames.of_keeps (fun b o e hnf => ?_) (funFrames_none z fun b hb => ?_)
      · obtain ⟨sl, q⟩ := up2 b o e hnf
        exact ⟨_, q, rfl⟩
      · cases q : B2.get? b with
        | none => rfl
        | some o =>
          have q2 := (oB b o q).2
          rw [(f3.mem hb).1] at q2
          cases q2
    · rw [b1 T (nbC T neT)]
      exact hnT
  show wpAny _ _ (PySem.passOn "comprehension.variables-let-go" (.ref a) ce : Sem Value) _ _ { s' with heap := h' }
  unfold PySem.passOn
  have he2 : h'.get? a = some oe := (sb.2 a nea).trans he
  refine wpAny_bind (wpAny_field (s := { s' with heap := h' }) he2 hd2 hv ?_)
  rw [if_neg (show ¬ ((Value.ref T == Value.none) = true) from Bool.false_ne_true)]
  rw [hce, hf]
  refine wpAny_bind (HandSPX.setFlight_onZ (s := { s' with heap := h' }) held2 fun h4 held4 up4 => wpAny_throw ?_)
  refine tk _ _ ⟨a, B2, _, pins, σ, H', cls, d, rfl, I2, nb2, up2.trans up4, .inr (.inr ?_), na, os, ag, hE⟩
  rw [hs]
  exact held4
end
end DL
set_option Elab.async false
set_option linter.all false
set_option maxRecDepth 100000
set_option maxHeartbeats 4000000
/-! DL24: [f(x) for x in l], where f may raise. -/
namespace DL
open PySem PySem.Spec PySem.Calls PyProof.Rows L2 RZ
/-- the block's context, with what is wanted of what it lets out -/
abbrev blkE (X : Cx) (s : Shared) (H : Hp) (scope : Scope) (cenv : Env) (fp : List Addr) (xe : Value → Shared → Prop) : Cx := { X.blk s H scope cenv fp with xe := xe }
theorem inv_xe {X : Cx} {xe : Value → Shared → Prop} {pins : List (Addr × Obj)} {σ : L2.St} {H : Hp} {s : Shared} (I : Inv X pins σ H s) : Inv { X with xe := xe } pins σ H s :=
  ⟨⟨I.ok.mod, I.ok.kind, I.ok.glob, I.ok.blt, I.ok.above, I.ok.inj, I.ok.has, I.ok.cab, I.ok.hd, I.ok.frames, I.ok.stk, I.ok.exf, I.ok.bs, I.ok.bsz, I.ok.noex, I.ok.exfs, I.ok.funs, I.ok.frf⟩, I.os, I.bare, I.base, I.loc, I.cell, I.free, I.freeC, I.pin, I.hok, I.len⟩
section
variable {X : Cx} {E : XK}
theorem pe_lcE {elt tg iter : Expr} {scope : Scope} {own : List (Str × Nat)} {pos : Pos} {wi : TI} {g : TG} {te : TE} (hst : X.stack = X.env :: X.outer) (hf : X.env.frame = some X.env.locals) (tk : L2N.Takes X (fun cls d _ H => E cls d H)) (hc : X.calm = true) (hN : X.N.Nodup) (hi : PI X tg iter wi) (ok : BlkOk X.N X.env.scope scope own)
    (hg : ∀ (s : Shared) (H : Hp) (C : Addr) (cl : List (Str × Addr)) (fp : List Addr) (xe : Value → Shared → Prop), PG (blkE X s H scope (compEnvC scope cl C X.env) fp xe) tg g)
    (he : ∀ (s : Shared) (H : Hp) (C : Addr) (cl : List (Str × Addr)) (fp : List Addr) (xe : Value → Shared → Prop), Passes (L2N.CX X.prog X.w) (blkE X s H scope (compEnvC scope cl C X.env) fp xe) E → PE (blkE X s H scope (compEnvC scope cl C X.env) fp xe) elt te)
    (hs : ∀ x, foldedSetIterable iter X.env x = pure x := by intro _; rfl) : PE X (.ListComp elt [⟨tg, iter, [], 0⟩] scope pos) (tLc wi g (fun _ H Q => Q true H) te (own.map (·.2))) := by
  refine ⟨fun pins s σ H Q I h => ?_⟩
  rw [eval_ListComp]
  have hfree : ∀ y ∈ scope.names, y.2 = .free → ∃ c, X.env.cells.lookup y.1 = some c := fun y hy e => by
    rcases ok.free y hy e with k | k
    · exact I.ok.has _ (.inl k)
    · exact I.ok.has _ (.inr k)
  refine comprehension_at (use := none) rfl hs (closure_ok hfree) ok.kind (fun y hy e => by rw [ok.uniq y hy, e]) (thn (hi.run pins s σ H _ I h) fun xv s1 hx => thn hx fun itv s2 h2 => ?_)
  obtain ⟨it, fp, tn, J, H2, e, I2, T, st2, f2, q⟩ := h2
  subst e
  refine wpAny_newObj_type (newEnv_comp ?_) (by show 0 ≤ sizeLine; decide)
  generalize hD : s2.heap.objs.size = D
  have hDn : H2 D = none := I2.hok.fresh (Nat.le_of_eq hD)
  obtain ⟨W, ⟨m0, w0⟩, turn⟩ := q D hDn
  generalize hs3 : ({ s2 with heap := s2.heap.push { cls := .type "list", data := .seq ([] : List Value).toArray } } : Shared) = s3
  have I3 : Inv X pins σ (upd H2 D (.lst [])) s3 := by
    rw [← hs3]
    refine I2.laid (t' := s2.toks) (fun b o e => Heap.get?_push_of_some _ e) (Nat.le_of_eq hD) ⟨Nat.zero_le _, [], 0, .nil, ?_⟩
    rw [← hD]
    exact Heap.get?_push_size _ rfl
  have h3 : s3.heap = s2.heap.push { cls := .type "list", data := .seq ([] : List Value).toArray } := by rw [← hs3]
  have sz : ∀ b ∈ fp, b < s2.heap.objs.size := fun b hb => by
    obtain ⟨o, e, _⟩ := T.obj _ _ st2 b hb
    exact Heap.lt_size e
  have f3 : ∀ b ∈ fp, FpOk X pins (upd H2 D (.lst [])) b ∧ b < s3.heap.objs.size := fun b hb => by
    have hlt := sz b hb
    refine ⟨⟨?_, (f2 b hb).2⟩, by rw [h3, Heap.size_push]; exact Nat.lt_succ_of_lt hlt⟩
    rw [upd_ne (by rw [← hD]; exact Nat.ne_of_lt hlt)]
    exact (f2 b hb).1
  have st3 : tn 0 s3.heap := T.keep _ _ _ st2 fun b _ o e => by rw [h3]; exact Heap.get?_push_of_some _ e
  have I4 := block_start I3 ok hN f3
  have pg := hg s3 (upd H2 D (.lst [])) s3.heap.objs.size (cellsFrom (s3.heap.objs.size + 1) scope.names (cloFrom X.env.cells scope.names [])) fp
  have pe := he s3 (upd H2 D (.lst [])) s3.heap.objs.size (cellsFrom (s3.heap.objs.size + 1) scope.names (cloFrom X.env.cells scope.names [])) fp
  show codeAny _ _ (.compStart (.ListComp elt [⟨tg, iter, [], 0⟩] scope pos) 0 (.ref it) (.ref D) (compEnvC scope (cellsFrom (s3.heap.objs.size + 1) scope.names (cloFrom X.env.cells scope.names [])) s3.heap.objs.size X.env)) (compEnds (model X.prog X.w) X.A X.xe none (EP X pins σ Q) (.ref D) (compEnvC scope (cellsFrom (s3.heap.objs.size + 1) scope.names (cloFrom X.env.cells scope.names [])) s3.heap.objs.size X.env)) { s3 with heap := pushCells (s3.heap.push { cls := .type "dict", data := .dict #[] }) scope.names }
  have nfp : ∀ b ∈ fp, (upd H2 D (.lst [])) b = none := fun b hb => (f3 b hb).1.1
  generalize hce : compEnvC scope (cellsFrom (s3.heap.objs.size + 1) scope.names (cloFrom X.env.cells scope.names [])) s3.heap.objs.size X.env = ce at I4 pg pe ⊢
  have cL : ce.locals = s3.heap.objs.size := by subst hce; rfl
  have cF : ce.frame = X.env.frame := by subst hce; rfl
  generalize hH3 : upd H2 D (.lst []) = H3 at I3 I4 pg pe w0 nfp f3
  generalize hs4 : ({ s3 with heap := pushCells (s3.heap.push { cls := .type "dict", data := .dict #[] }) scope.names } : Shared) = s4 at I4 ⊢
  have st4 : tn 0 s4.heap := T.keep _ _ _ st3 fun b _ o e => by rw [← hs4]; exact pushCells_keeps _ _ _ _ (Heap.get?_push_of_some _ e)
  -- what is let out
  generalize hxe : (notedBy (model X.prog X.w) X.A ce fun e s' => compEnds (model X.prog X.w) X.A X.xe none (EP X pins σ Q) (.ref D) ce (.error e) s') = xe
  have back : ∀ {pins' : List (Addr × Obj)} {σ' : L2.St} {H' : Hp} {s' : Shared}, Inv (blkE X s3 H3 scope ce fp xe) pins' σ' H' s' → Inv X pins σ H' s' ∧ FpOk X pins H' s3.heap.objs.size := fun {pins' σ' H' s'} I' => by
    have nC : H' s3.heap.objs.size = none := by
      have z : H' ce.locals = none := I'.free
      rw [cL] at z
      exact z
    exact ⟨I3.call' (ch := fp) I'.os I'.base I'.hok I'.bare fun b hb => ⟨(f3 b hb).1.2.2.2.1, (f3 b hb).1.2.1, (f3 b hb).1.2.2.2.2.1, (f3 b hb).1.2.2.2.2.2⟩, I3.fpOk (Nat.le_refl _) nC⟩
  have hP : Passes (L2N.CX X.prog X.w) (blkE X s3 H3 scope ce fp xe) E := fun pins' σ' H' s' e s'' I' c => by
    obtain ⟨J', f⟩ := back I'
    obtain ⟨m, hn, _⟩ := I'.loc
    show xe e s''
    rw [← hxe]
    exact comp_fails hst hf tk J' cF ⟨m, hn⟩ (by rw [cL]; exact f) c
  have pe := pe xe hP
  have pg := pg xe
  have I4 : Inv (blkE X s3 H3 scope ce fp xe) [] (wipe σ (own.map (·.2))) H3 s4 := inv_xe I4
  have stat : ∀ {σ' : L2.St} {H' : Hp} {s' : Shared}, Inv (blkE X s3 H3 scope ce fp xe) [] σ' H' s' → (∀ b ∈ fp, H' b = none) → ∀ b ∈ fp, FpOk (blkE X s3 H3 scope ce fp xe) [] H' b := fun {σ' H' s'} I' hn b hb =>
    ⟨hn b hb, (I'.ok.exf b hb).1, I'.ok.exfs b hb, .inl hb, fun x c e => (I'.ok.exf b hb).2 x c e, fun p hp => absurd (show p ∈ ([] : List (Addr × Obj)) ++ [] from hp) (by simp)⟩
  have loop : codeAny (model X.prog X.w) X.A (.compLoop (.ListComp elt [⟨tg, iter, [], 0⟩] scope pos) 0 (.ref it) (.ref D) ce) (compEnds (model X.prog X.w) X.A X.xe none (EP X pins σ Q) (.ref D) ce) s4 := by
    refine compLoop_any (fun n s' => ∃ i H', Inv (blkE X s3 H3 scope ce fp xe) [] (wipe σ (own.map (·.2))) H' s' ∧ tn i s'.heap ∧ (∀ b ∈ fp, H' b = none) ∧ W i n H') ?_ m0 ⟨0, H3, I4, st4, nfp, w0⟩
    rw [hxe]
    rintro n s5 ⟨i, H5, I5, st5, n5, w5⟩
    rcases turn i n H5 w5 with ⟨stop, qq⟩ | ⟨go, Nx, hNx, step⟩
    · have td := T.done (blkE X s3 H3 scope ce fp xe) rfl rfl rfl hc i [] s5 _ H5 (fun _ _ => False) I5 (stat I5 n5) st5 stop
      refine thnF td fun r s6 ⟨hr, I6⟩ => ?_
      subst hr
      obtain ⟨I7, f⟩ := back I6
      obtain ⟨m, hn, _⟩ := I6.loc
      obtain ⟨f0, f1, f2, f3, f4, f5⟩ := f
      refine ⟨m, hn, fun h'' sb => ?_⟩
      rw [cL] at sb
      exact ⟨.ref D, H5, I7.turned (t' := s6.toks) (fun b o hb e => (sb.2 b hb).trans e) f0 f1 f3 f4 f5, rfl, qq⟩
    · have ti := T.item (blkE X s3 H3 scope ce fp xe) rfl rfl rfl hc i [] s5 _ H5 (fun _ _ => False) I5 (stat I5 n5) st5 go
      refine thnF ti fun r s6 ⟨u, hr, h6⟩ => ?_
      subst hr
      refine thnF h6 fun _ s7 ⟨x, H7, I7, r7, y7, st7, n7⟩ => ?_
      have I7' := I7.pinned (stat I7 n7) (T.obj _ _ st7)
      refine thn (pg.run _ s7 _ H7 x u _ I7' r7 (step x H7 y7)) fun _ s8 ⟨σ8, H8, I8, hw8, q8⟩ => ?_
      have fin : ∀ {s' : Shared} {H' : Hp}, Inv (blkE X s3 H3 scope ce fp xe) ([] ++ pinsAt fp s7.heap) σ8 H' s' → Nx H' → ∃ m, m < n ∧ ∃ i H', Inv (blkE X s3 H3 scope ce fp xe) [] (wipe σ (own.map (·.2))) H' s' ∧ tn i s'.heap ∧ (∀ b ∈ fp, H' b = none) ∧ W i m H' := fun {s' H'} I' nx => by
        obtain ⟨m', hm, w'⟩ := hNx H' nx
        have pin' : ∀ b ∈ fp, ∀ o, s7.heap.get? b = some o → s'.heap.get? b = some o ∧ H' b = none := fun b hb o e =>
          let z := I'.pin (b, o) (List.mem_append_right _ (List.mem_append_right _ (mem_pinsAt hb e)))
          ⟨z.1, z.2.1⟩
        have hl : (wipe σ (own.map (·.2))).length = σ8.length := by rw [← hw8, wipe_length]
        refine ⟨m', hm, i + 1, H', (I'.unpinned (pins := [])).weak hl (fun j v e => ?_), T.keep _ _ _ st7 fun b hb o e => (pin' b hb o e).1, fun b hb => ?_, w'⟩
        · rw [← hw8] at e
          exact (wipe_some e).1
        · obtain ⟨o, e, _⟩ := T.obj _ _ st7 b hb
          exact (pin' b hb o e).2
      rw [List.forIn_nil]
      refine wpAny_pure ?_
      simp only [if_true] at q8 ⊢
      refine thn (pe.run _ s8 σ8 H8 _ I8 q8) fun z s10 ⟨yv, H10, I10, r10, acc, hD10, hz10, nx⟩ => ?_
      exact app_ok (X := blkE X s3 H3 scope ce fp xe) I10 hD10 hz10 r10 fun s11 I11 => fin I11 nx
  exact codeAny_compStart_list loop (T.self X.A 0 _ _ _ st4 loop)
end
end DL
set_option Elab.async false
set_option linter.all false
set_option maxRecDepth 100000
set_option maxHeartbeats 4000000
/-! DL25: the reading of a comprehension whose element may raise. -/
namespace DL
open PySem PySem.Spec PySem.Calls PyProof.Rows L2 RZ
def eCompX (vs : List Nat) (fi : DE → R (List D)) (p : TP) (fe : DE → R D) : DE → R D := fun ρ => (fi ρ).bind fun items => (compL (wipeE ρ vs) p tTrue fe items).bind fun l => .ok (.list l)
theorem bindE_ne (p : TP) : ∀ (d : D) (ρ : DE) (c : Exn), p.bindE d ρ ≠ .err c := by
  induction p with
  | nm i =>
    intro d ρ c h
    cases h
  | pr a b iha ihb =>
    intro d ρ c h
    unfold TP.bindE at h
    split at h
    · cases q : a.bindE _ ρ with
      | bad => rw [q] at h; cases h
      | err c2 => exact iha _ _ _ q
      | ok ρ1 =>
        rw [q] at h
        exact ihb _ _ _ h
    · cases h
  | tr a b e iha ihb ihe =>
    intro d ρ c h
    unfold TP.bindE at h
    split at h
    · cases q : a.bindE _ ρ with
      | bad => rw [q] at h; cases h
      | err c2 => exact iha _ _ _ q
      | ok ρ1 =>
        rw [q] at h
        have h : (b.bindE _ ρ1).bind _ = R.err c := h
        cases q2 : b.bindE _ ρ1 with
        | bad => rw [q2] at h; cases h
        | err c2 => exact ihb _ _ _ q2
        | ok ρ2 =>
          rw [q2] at h
          exact ihe _ _ _ h
    · cases h
section
variable {G : Gd} {E : XK} {X : Cx} {tg iter elt : Expr} {pos : Pos}
theorem pd_lcE {scope : Scope} {own : List (Str × Nat)} {fi : DE → R (List D)} {p : TP} {fe : DE → R D} (hst : X.stack = X.env :: X.outer) (hf : X.env.frame = some X.env.locals) (tk : L2N.Takes X (fun cls d _ H => E cls d H)) (hc : X.calm = true) (hN : X.N.Nodup) (hi : PDI G E X tg iter fi) (ok : BlkOk X.N X.env.scope scope own) (hp : ∀ i ∈ p.names, i ∈ own.map (·.2))
    (hg : ∀ (s : Shared) (H : Hp) (C : Addr) (cl : List (Str × Addr)) (fp : List Addr) (xe : Value → Shared → Prop), PGT (blkE X s H scope (compEnvC scope cl C X.env) fp xe) tg p)
    (he : ∀ (s : Shared) (H : Hp) (C : Addr) (cl : List (Str × Addr)) (fp : List Addr) (xe : Value → Shared → Prop), Passes (L2N.CX X.prog X.w) (blkE X s H scope (compEnvC scope cl C X.env) fp xe) E → PD G E (blkE X s H scope (compEnvC scope cl C X.env) fp xe) elt fe)
    (hs : ∀ x, foldedSetIterable iter X.env x = pure x := by intro _; rfl) : PD G E X (.ListComp elt [⟨tg, iter, [], 0⟩] scope pos) (eCompX (own.map (·.2)) fi p fe) := by
  refine pe_imp (pe_lcE (g := p.g X.K) (te := tHide (tD G E X.K fe)) hst hf tk hc hN hi ok hg (fun s H C cl fp xe hx => pe_hide (he s H C cl fp xe hx)) hs) ?_
  rintro σ H Q ⟨ρ, hr, ho⟩
  refine ⟨ρ, hr, (Out.bind (rel := rW G.T X.K) ho).mono ?_⟩
  rintro J H1 e1 - ⟨items, hit, _, w, ho⟩ Da hD
  have hr1 : RepE G X.K H1 (wipe σ (own.map (·.2))) (wipeE ρ (own.map (·.2))) := repE_wipe _ (hr.ext e1)
  generalize hvs : own.map (·.2) = vs at ho hr1 hp ⊢
  obtain ⟨T, hT⟩ : ∃ T, compL (wipeE ρ vs) p tTrue fe items = T := ⟨_, rfl⟩
  rw [hT] at ho
  refine ⟨fun i m H => m = items.length - i ∧ i ≤ items.length ∧ Ex G.T H1 (hid H [Da]) ∧ ∃ acc ds, H Da = some (.lst acc) ∧ RpAll X.K (hid H [Da]) acc ds ∧ acc.length ≤ i ∧ T = (compL (wipeE ρ vs) p tTrue fe (items.drop i)).bind fun rest => .ok (ds ++ rest),
    ⟨_, rfl, Nat.zero_le _, by rw [hid_new hD]; exact Ex.refl _, [], [], upd_same, .nil, Nat.le_refl _, by rw [List.drop_zero, hT]; cases T <;> rfl⟩, ?_⟩
  rintro i m H ⟨rfl, hile, ex, acc, ds, hacc, hra, hlen, htt⟩
  have own1 : Owns H [Da] := owns_one hacc
  have exH : Ex G.T H1 H := ex.trans (hid_sub.ex)
  by_cases hlt : i < items.length
  · refine .inr ⟨w.go i H exH hlt, fun H' => ∃ acc ds, Ex G.T H1 (hid H' [Da]) ∧ H' Da = some (.lst acc) ∧ RpAll X.K (hid H' [Da]) acc ds ∧ acc.length ≤ i + 1 ∧ T = (compL (wipeE ρ vs) p tTrue fe (items.drop (i + 1))).bind fun rest => .ok (ds ++ rest),
      fun H' ⟨acc, ds, q0, q1, q2, q3, q5⟩ => ⟨items.length - (i + 1), by omega, rfl, hlt, q0, acc, ds, q1, q2, q3, q5⟩, fun x H2 hy => ?_⟩
    obtain ⟨e2, same2, d, hd, rx⟩ := w.yld i H x H2 [Da] exH own1 (fun a ha => by rw [show a = Da by simpa using ha]; exact hD) hlt hy
    have hacc2 : H2 Da = some (.lst acc) := by rw [same2 Da (by simp)]; exact hacc
    have hdrop : items.drop i = d :: items.drop (i + 1) := by
      rw [List.drop_eq_getElem_cons hlt]
      rw [List.getElem?_eq_getElem hlt] at hd
      rw [Option.some.inj hd]
    rw [hdrop] at htt
    cases hb : p.bindE d (wipeE ρ vs) with
    | bad =>
      have z : T = .bad := by
        rw [htt]
        unfold compL
        rw [hb]
        rfl
      rw [z] at ho
      exact ho.elim
    | err c => exact absurd hb (bindE_ne p _ _ _)
    | ok ρ1 =>
      have hcl : compL (wipeE ρ vs) p tTrue fe (d :: items.drop (i + 1)) = (fe ρ1).bind fun y => (compL (wipeE ρ vs) p tTrue fe (items.drop (i + 1))).bind fun r => .ok (y :: r) := by
        conv => lhs; unfold compL
        rw [hb]
        rfl
      rw [hcl] at htt
      refine bindE_g (H := hid H2 [Da]) hid_sub p d _ _ ρ1 x _ (hr1.ext (ex.trans e2)) rx hb fun σ2 rep2 wip => ⟨(wip vs hp).trans (wipe_wipe vs), ?_⟩
      dsimp only
      rw [if_pos rfl]
      refine ⟨[Da], owns_one hacc2, ρ1, rep2, ?_⟩
      cases hfe : fe ρ1 with
      | bad =>
        rw [hfe] at htt
        have z : T = .bad := htt
        rw [z] at ho
        exact ho.elim
      | err c =>
        rw [hfe] at htt
        have z : T = .err c := htt
        rw [z] at ho
        exact fun H' e' => ho H' ((ex.trans e2).trans e')
      | ok y =>
        rw [hfe] at htt
        intro yv H4 e4 ry hn4
        have h4 : unh H2 [Da] H4 Da = some (.lst acc) := by rw [unh_in (by simp)]; exact hacc2
        have hh4 : hid (upd (unh H2 [Da] H4) Da (.lst (acc ++ [yv]))) [Da] = H4 := by
          rw [hid_updI (by simp), hid_unh hn4]
        refine ⟨acc, h4, Nat.lt_of_lt_of_le (Nat.lt_of_le_of_lt hlen hlt) w.small, acc ++ [yv], ds ++ [y], ?_, upd_same, ?_, ?_, ?_⟩
        · rw [hh4]
          exact (ex.trans e2).trans e4
        · rw [hh4]
          exact RpAll.app ((e2.trans e4).rps hra) (.cons ry .nil)
        · rw [List.length_append, List.length_singleton]
          omega
        · rw [htt]
          show ((compL (wipeE ρ vs) p tTrue fe (items.drop (i + 1))).bind fun r => R.ok (y :: r)).bind (fun rest => R.ok (ds ++ rest)) = _
          cases compL (wipeE ρ vs) p tTrue fe (items.drop (i + 1)) with
          | ok r =>
            show R.ok (ds ++ (y :: r)) = R.ok (ds ++ [y] ++ r)
            rw [List.append_assoc]
            rfl
          | err c => rfl
          | bad => rfl
  · have ei : i = items.length := by omega
    subst ei
    rw [List.drop_length] at htt
    have z : T = .ok ds := by
      rw [htt]
      show R.ok (ds ++ []) = _
      rw [List.append_nil]
    rw [z] at ho
    exact .inl ⟨w.stop H exH, ho (.ref Da) H exH (.lst (.inl hacc) ((Sub.ex (T := G.T) hid_sub).rps hra))⟩
end
def cK0X (vs : List Nat) (p : TP) (f : DE → R D) (r : DE) (items : List D) : R D := kD lstK (compL (wipeE r vs) p tTrue f items)
theorem compx_a {vs : List Nat} {fi : DE → R (List D)} {p : TP} {f : DE → R D} {r : DE} : eCompX vs fi p f r = kD (cK0X vs p f r) (fi r) := by
  unfold eCompX
  rw [bind_k]
  congr 1
  funext items
  exact bind_k _ _
theorem compx_k {vs : List Nat} {p : TP} {f : DE → R D} {r : DE} (items : List D) : cK0X vs p f r items = kD lstK (compL (wipeE r vs) p tTrue f items) := rfl
end DL
set_option Elab.async false
set_option linter.all false
set_option maxRecDepth 100000
set_option maxHeartbeats 4000000
/-! TG1: tables of sets up to some thousands of slots: every slot is met (own arithmetic of i -> 5 i + 1), what is laid is found again. -/
namespace TG
open PySem PySem.Spec PyProof.Rows L2
/-! ### i -> 5 i + 1 goes round all residues of a power of two -/
def five : Nat → Nat
  | 0 => 0
  | k + 1 => 5 * five k + 1
theorem five_add (b : Nat) : ∀ a, five (a + b) = (4 * five b + 1) * five a + five b
  | 0 => by
    rw [Nat.zero_add]
    show five b = (4 * five b + 1) * 0 + five b
    omega
  | a + 1 => by
    have ih := five_add b a
    rw [show a + 1 + b = (a + b) + 1 by omega]
    show 5 * five (a + b) + 1 = (4 * five b + 1) * (5 * five a + 1) + five b
    rw [ih]
    grind
theorem five_pow : ∀ n, ∃ u, five (2 ^ n) = 2 ^ n * (2 * u + 1)
  | 0 => ⟨0, rfl⟩
  | n + 1 => by
    obtain ⟨u, hu⟩ := five_pow n
    refine ⟨2 * u * five (2 ^ n) + u + five (2 ^ n), ?_⟩
    have e : (2 : Nat) ^ (n + 1) = 2 ^ n + 2 ^ n := by rw [Nat.pow_succ]; omega
    rw [e, five_add]
    generalize five (2 ^ n) = f at hu ⊢
    generalize (2 : Nat) ^ n = M at hu ⊢
    subst hu
    grind
theorem five_shift (n k : Nat) : ∃ v, five (k + 2 ^ n) = five k + 2 ^ n * (2 * v + 1) := by
  obtain ⟨u, hu⟩ := five_pow n
  refine ⟨4 * u * five k + u + 2 * five k, ?_⟩
  rw [five_add, hu]
  generalize five k = x
  generalize (2 : Nat) ^ n = M
  grind
theorem five_all : ∀ n j, ∃ k, k < 2 ^ n ∧ five k % 2 ^ n = j % 2 ^ n
  | 0, j => ⟨0, by decide, by rw [Nat.pow_zero, Nat.mod_one, Nat.mod_one]⟩
  | n + 1, j => by
    obtain ⟨k, hk, e⟩ := five_all n j
    obtain ⟨v, hv⟩ := five_shift n k
    have hM : 0 < 2 ^ n := Nat.pow_pos (by decide)
    rw [Nat.pow_succ]
    generalize (2 : Nat) ^ n = M at hk e hv hM ⊢
    rw [Nat.mod_mul (x := j)]
    by_cases q : five k / M % 2 = j / M % 2
    · exact ⟨k, by omega, by rw [Nat.mod_mul, e, q]⟩
    · refine ⟨k + M, by omega, ?_⟩
      rw [Nat.mod_mul, hv, Nat.add_mul_mod_self_left, e, Nat.add_mul_div_left _ _ hM, ← Nat.mod_mul, Nat.mod_mul]
      have : (five k / M + (2 * v + 1)) % 2 = j / M % 2 := by omega
      rw [this]
/-- the masks that come -/
def Mk (m : Nat) : Prop := m = 7 ∨ m = 31 ∨ m = 127 ∨ m = 511 ∨ m = 2047 ∨ m = 8191
theorem mk_pow {m : Nat} (h : Mk m) : ∃ n, m + 1 = 2 ^ n := by
  rcases h with rfl | rfl | rfl | rfl | rfl | rfl
  · exact ⟨3, rfl⟩
  · exact ⟨5, rfl⟩
  · exact ⟨7, rfl⟩
  · exact ⟨9, rfl⟩
  · exact ⟨11, rfl⟩
  · exact ⟨13, rfl⟩
theorem mk_odd {m : Nat} (h : Mk m) : m % 2 = 1 := by
  unfold Mk at h
  omega
theorem mk_le {m : Nat} (h : Mk m) : m ≤ 8191 := by
  unfold Mk at h
  omega
theorem lcg_five (m : Nat) : ∀ k, lcgN m k = five k % (m + 1)
  | 0 => by
    show 0 = 0 % (m + 1)
    rw [Nat.zero_mod]
  | k + 1 => by
    show (lcgN m k * 5 + 1) % (m + 1) = (5 * five k + 1) % (m + 1)
    rw [lcg_five m k, Nat.add_mod, Nat.mul_mod, Nat.mod_mod, ← Nat.mul_mod, ← Nat.add_mod, Nat.mul_comm]
theorem goes_all {m i j : Nat} (hm : Mk m) (hi : i ≤ m) (hj : j ≤ m) : ∃ k, k ≤ m ∧ lcgI m i k = j := by
  obtain ⟨n, hn⟩ := mk_pow hm
  obtain ⟨a, ha, ea⟩ := five_all n i
  obtain ⟨b, hb, eb⟩ := five_all n j
  rw [← hn] at ha ea hb eb
  rw [Nat.mod_eq_of_lt (a := i) (by omega)] at ea
  rw [Nat.mod_eq_of_lt (a := j) (by omega)] at eb
  have ei : lcgN m a = i := by rw [lcg_five, ea]
  by_cases q : a ≤ b
  · refine ⟨b - a, by omega, ?_⟩
    rw [← ei, lcgN_add, show a + (b - a) = b by omega, lcg_five, eb]
  · refine ⟨b + (m + 1) - a, by omega, ?_⟩
    obtain ⟨v, hv⟩ := five_shift n b
    rw [← hn] at hv
    rw [← ei, lcgN_add, show a + (b + (m + 1) - a) = b + (m + 1) by omega, lcg_five, hv, Nat.add_mul_mod_self_left, eb]
/-! ### the way of a search meets each slot -/
theorem run_all {m : Nat} (hm : Mk m) (h : Int) {j : Nat} (hj : j ≤ m) : ∃ n, n ≤ m + 12 ∧ runI m (SetTable.bits h) n = j := by
  obtain ⟨k, hk, e⟩ := goes_all hm (runI_le m (SetTable.bits h) 12) hj
  refine ⟨12 + k, by omega, ?_⟩
  rw [runI_tail (bits_lt h), e]
theorem way_all {m : Nat} (hm : Mk m) (h : Int) {j : Nat} (hj : j ≤ m) : ∃ k, k < 10 * (m + 15) ∧ way m h k = j := by
  obtain ⟨n, hn, e⟩ := run_all hm h hj
  obtain ⟨k, hk, e2⟩ := run_nth m (SetTable.bits h) n
  refine ⟨k, by omega, ?_⟩
  show (nth m (runAt m (SetTable.bits h % (m + 1)) (SetTable.bits h)) k).j = j
  rw [e2, ← e]
  rfl
theorem way_in (m : Nat) (h : Int) (k : Nat) : way m h k ≤ m := by
  have a : SetTable.bits h % (m + 1) ≤ m := Nat.le_of_lt_succ (Nat.mod_lt _ (Nat.succ_pos _))
  have b := nth_in (m := m) k (runAt m (SetTable.bits h % (m + 1)) (SetTable.bits h)) (by
    have c := runEnd_bd a
    show SetTable.bits h % (m + 1) + (SetTable.runEnd m (SetTable.bits h % (m + 1)) - SetTable.bits h % (m + 1)) ≤ m
    omega)
  show (nth m (runAt m (SetTable.bits h % (m + 1)) (SetTable.bits h)) k).j ≤ m
  omega
/-! ### a table in which all is found again -/
structure Tb (t : SetTable) (hs : List Int) : Prop where
  ri : Ris t.place.toList
  du : t.dummies = #[]
  ln : t.place.toList.length = hs.length
  ms : Mk t.mask
  le : ∀ x ∈ t.place.toList, x ≤ t.mask
  on : ∀ (i : Nat) (h : Int) (j : Nat), hs[i]? = some h → t.place.toList[i]? = some j → ∃ k, way t.mask h k = j ∧ ∀ c, c < k → way t.mask h c ∈ t.place.toList
section
variable {t : SetTable} {hs : List Int}
theorem Tb.gap (T : Tb t hs) (hl : hs.length ≤ t.mask) (h : Int) : ∃ K, K < 10 * (t.mask + 15) ∧ way t.mask h K ∉ t.place.toList ∧ ∀ c, c < K → way t.mask h c ∈ t.place.toList := by
  obtain ⟨j, hj, nj⟩ := st_missing t.place.toList (t.mask + 1) (by rw [T.ln]; omega)
  obtain ⟨k, hk, rfl⟩ := way_all T.ms h (Nat.le_of_lt_succ hj)
  obtain ⟨K, a, b, c⟩ := st_least (p := fun c => way t.mask h c ∉ t.place.toList) k nj
  exact ⟨K, by omega, b, fun c' hc => Classical.byContradiction fun z => c c' hc z⟩
theorem Tb.ahead (T : Tb t hs) {h : Int} {K i j : Nat} (hK : way t.mask h K ∉ t.place.toList) (hi : hs[i]? = some h) (hj : t.place.toList[i]? = some j) : ∃ k, k < K ∧ way t.mask h k = j := by
  obtain ⟨k, e, b⟩ := T.on i h j hi hj
  refine ⟨k, Nat.lt_of_not_le fun z => ?_, e⟩
  by_cases q : K = k
  · rw [q, e] at hK
    exact hK (List.mem_of_getElem? hj)
  · exact hK (b K (by omega))
/-- one more is put where the way first finds room -/
theorem Tb.more (T : Tb t hs) {h : Int} {j p : Nat} (hp : p = SetTable.below t.place j) (hj : ∃ K, way t.mask h K = j ∧ ∀ c, c < K → way t.mask h c ∈ t.place.toList) (hn : j ∉ t.place.toList) :
    p ≤ hs.length ∧ Tb (t.put j).1 (hs.take p ++ h :: hs.drop p) ∧ (t.put j).1.fill = hs.length + 1 := by
  obtain ⟨K, rfl, hb⟩ := hj
  subst hp
  obtain ⟨K', hK'⟩ : ∃ j, j = way t.mask h K := ⟨_, rfl⟩
  rw [← hK'] at hn ⊢
  have c1 := (below_cut T.ri K').1
  have pl : SetTable.below t.place K' ≤ t.place.toList.length := by rw [Array.length_toList]; exact c1
  have ph : SetTable.below t.place K' ≤ hs.length := by rw [← T.ln]; exact pl
  have pp := put_place t K'
  have old : ∀ x, x ∈ t.place.toList → x ∈ (t.put K').1.place.toList := fun x hx => by
    rw [pp]
    exact mem_ins.2 (.inr hx)
  have ln1 : (t.put K').1.place.toList.length = hs.length + 1 := by rw [pp, len_ins _ pl, T.ln]
  refine ⟨ph, ⟨ris_insert T.ri fun e => hn (List.mem_of_getElem? (by rw [Array.getElem?_toList]; exact e)), put_dm T.du K', by rw [ln1, len_ins _ ph], T.ms, fun x hx => ?_, fun i h' j' h1 h2 => ?_⟩, ?_⟩
  · rw [pp] at hx
    rcases mem_ins.1 hx with z | z
    · rw [z, hK']
      exact way_in _ _ _
    · exact T.le x z
  · rw [tins_get hs ph] at h1
    rw [pp, tins_get _ pl] at h2
    show ∃ k, way t.mask h' k = j' ∧ ∀ c, c < k → way t.mask h' c ∈ (t.put K').1.place.toList
    by_cases a : i < SetTable.below t.place K'
    · rw [if_pos a] at h1 h2
      obtain ⟨k, e, z⟩ := T.on i h' j' h1 h2
      exact ⟨k, e, fun c hc => old _ (z c hc)⟩
    · rw [if_neg a] at h1 h2
      by_cases b : i = SetTable.below t.place K'
      · rw [if_pos b] at h1 h2
        cases h1
        cases h2
        exact ⟨K, hK'.symm, fun c hc => old _ (hb c hc)⟩
      · rw [if_neg b] at h1 h2
        obtain ⟨k, e, z⟩ := T.on (i - 1) h' j' h1 h2
        exact ⟨k, e, fun c hc => old _ (z c hc)⟩
  · show (t.put K').1.place.size + (t.put K').1.dummies.size = hs.length + 1
    rw [put_dm T.du K', ← Array.length_toList, ln1]
    rfl
end
/-! ### all laid anew -/
theorem seat {m : Nat} (hm : Mk m) (ow : Array (Option Nat)) (h : Int) {j : Nat} (hj : j ≤ m) (hf : oAt ow j = none) :
    ∃ K, SetTable.layClean.free m ow (SetTable.turns m) (SetTable.bits h % (m + 1)) (SetTable.bits h) = some (way m h K) ∧ oAt ow (way m h K) = none ∧ ∀ c, c < K → oAt ow (way m h c) ≠ none := by
  obtain ⟨n, hn, e⟩ := run_all hm h hj
  have at_n : way m h (off m (SetTable.bits h % (m + 1)) (SetTable.bits h) n) = j := by
    show (nth m (runAt m _ _) (off m _ _ n)).j = j
    rw [nth_off, itL_run, ← e]
    rfl
  obtain ⟨K, a, b, c⟩ := st_least (p := fun k => oAt ow (way m h k) = none) (off m (SetTable.bits h % (m + 1)) (SetTable.bits h) n) (by rw [at_n]; exact hf)
  refine ⟨K, free_spec m ow (SetTable.turns m) n _ _ K (by show n < m + 15; omega) a (fun k hk => ?_) ?_, b, c⟩
  · have := c k hk
    cases z : oAt ow (way m h k) with
    | none => exact absurd z this
    | some y =>
      rfl
  · have b : oAt ow (nth m (runAt m (SetTable.bits h % (m + 1)) (SetTable.bits h)) K).j = none := b
    rw [b]
    rfl
theorem seated {m : Nat} (hm : Mk m) {done : List Int} {ow : Array (Option Nat)} (W : Own m done ow) (hl : done.length ≤ m) (h : Int) :
    ∃ j, SetTable.layClean.free m ow (SetTable.turns m) (SetTable.bits h % (m + 1)) (SetTable.bits h) = some j ∧ Own m (done ++ [h]) (ow.setIfInBounds j (some done.length)) := by
  obtain ⟨ps, lp, ip⟩ := W.ps
  obtain ⟨j, hj, nj⟩ := st_missing ps (m + 1) (by omega)
  have ej : oAt ow j = none := by
    cases z : oAt ow j with
    | none => rfl
    | some k => exact absurd (ip j (by omega) (by rw [z]; simp)) nj
  obtain ⟨K, a, b, c⟩ := seat hm ow h (show j ≤ m by omega) ej
  have lt : way m h K < ow.size := by
    rw [W.sz]
    exact Nat.lt_succ_of_le (way_in m h K)
  have self := oAt_set_self (some done.length) lt
  have up : ∀ i, oAt ow i ≠ none → oAt (ow.setIfInBounds (way m h K) (some done.length)) i ≠ none := fun i hi => by
    by_cases q : i = way m h K
    · rw [q, self]
      simp
    · rw [oAt_set_ne _ q]
      exact hi
  refine ⟨_, a, ⟨by rw [Array.size_setIfInBounds, W.sz], fun i k hi e => ?_, fun k hk => ?_, way m h K :: ps, by simp [lp], fun i hi e => ?_⟩⟩
  · by_cases q : i = way m h K
    · rw [q, self] at e
      cases e
      exact ⟨h, K, by simp, q.symm, fun c' hc => up _ (c c' hc)⟩
    · rw [oAt_set_ne _ q] at e
      obtain ⟨g, G, g1, g2, g3⟩ := W.at_ i k hi e
      refine ⟨g, G, ?_, g2, fun c' hc => up _ (g3 c' hc)⟩
      rw [List.getElem?_append_left (List.getElem?_eq_some_iff.mp g1).1, g1]
  · by_cases q : k < done.length
    · obtain ⟨i, hi, e⟩ := W.all k q
      refine ⟨i, hi, ?_⟩
      rw [oAt_set_ne _ fun z => by rw [z, b] at e; cases e]
      exact e
    · obtain rfl : k = done.length := by
        rw [List.length_append, List.length_singleton] at hk
        omega
      exact ⟨_, way_in m h K, self⟩
  · by_cases q : i = way m h K
    · simp [q]
    · rw [oAt_set_ne _ q] at e
      exact List.mem_cons_of_mem _ (ip i hi e)
theorem seat_all {m : Nat} (hm : Mk m) : ∀ (rest done : List Int) (ow : Array (Option Nat)), Own m done ow → done.length + rest.length ≤ m →
    ∃ ow', rest.foldl (stepF m) (some (ow, done.length)) = some (ow', done.length + rest.length) ∧ Own m (done ++ rest) ow'
  | [], done, ow, W, _ => ⟨ow, rfl, by rw [List.append_nil]; exact W⟩
  | h :: rest, done, ow, W, hl => by
    rw [List.length_cons] at hl
    obtain ⟨j, a, W2⟩ := seated hm W (by omega) h
    have l1 : (done ++ [h]).length = done.length + 1 := by simp
    obtain ⟨ow', b, W3⟩ := seat_all hm rest (done ++ [h]) _ W2 (by omega)
    rw [List.append_assoc] at W3
    refine ⟨ow', ?_, W3⟩
    rw [List.foldl_cons, stepF_some a, List.length_cons, ← l1, b, l1]
    congr 2
    omega
theorem laid {m : Nat} (hm : Mk m) {hs : Array Int} (hn : hs.size ≤ m) : ∃ ow, SetTable.layClean m hs = some ow ∧ Own m hs.toList ow := by
  obtain ⟨ow, a, W⟩ := seat_all hm hs.toList [] _ (Own.init m) (by simpa using hn)
  refine ⟨ow, ?_, W⟩
  rw [layClean_eq]
  show ((hs.toList.foldl (stepF m) (some (Array.replicate (m + 1) none, ([] : List Int).length))).map fun x => x.1) = some ow
  rw [a]
  rfl
theorem relaid (t : SetTable) {hs : Array Int} {wanted M : Nat} (hw : SetTable.sizeAbove wanted = M + 1) (hM : Mk M) (hn : hs.size ≤ M) :
    ∃ t2 order, t.relaid hs wanted = some (t2, order) ∧ order.toList.Perm (List.range hs.size) ∧ Tb t2 (order.toList.map fun i => hs.getD i 0) ∧ t2.mask = M ∧ t2.led = t.led ∧ t2.plain = t.plain := by
  obtain ⟨ow, a, W⟩ := laid hM hn
  have hw' : SetTable.sizeAbove wanted - 1 = M := by omega
  have hr : t.relaid hs wanted = some (tabOf t M ow, ((liveOf M ow).map fun q => q.2).toArray) := by
    rw [relaid_eq, hw', a]
    rfl
  obtain ⟨r1, r2⟩ := ris_live (fun j => ow.getD j none) (List.range (M + 1)) List.pairwise_lt_range
  have r1 : Ris ((liveOf M ow).map fun q => q.1) := r1
  have r2 : ∀ x ∈ (liveOf M ow).map fun q => q.1, x ∈ List.range (M + 1) := r2
  obtain ⟨ps, p1, p2⟩ := W.ps
  have up : (liveOf M ow).length ≤ hs.size := by
    have z := nat_nodup_len ((liveOf M ow).map fun q => q.1) ps (List.Pairwise.imp (R := fun a b => a < b) (fun h => Nat.ne_of_lt h) (show List.Pairwise (fun a b => a < b) ((liveOf M ow).map fun q => q.1) from r1)) fun x hx => by
      obtain ⟨⟨y, k⟩, hq, rfl⟩ := List.mem_map.mp hx
      obtain ⟨b1, b2⟩ := (mem_live W.sz).1 hq
      exact p2 y b1 (by rw [b2]; simp)
    rw [List.length_map, p1, Array.length_toList] at z
    exact z
  have there : ∀ k, k < hs.size → k ∈ (liveOf M ow).map fun q => q.2 := fun k hk => by
    obtain ⟨j, b1, b2⟩ := W.all k (by rw [Array.length_toList]; exact hk)
    exact List.mem_map.mpr ⟨(j, k), (mem_live W.sz).2 ⟨b1, b2⟩, rfl⟩
  have down : hs.size ≤ (liveOf M ow).length := by
    have z := nat_nodup_len (List.range hs.size) ((liveOf M ow).map fun q => q.2) List.nodup_range fun k hk => there k (List.mem_range.mp hk)
    rw [List.length_map, List.length_range] at z
    exact z
  refine ⟨_, _, hr, perm_range hs.size _ (by show ((liveOf M ow).map fun q => q.2).length = hs.size; rw [List.length_map]; omega) there, ⟨r1, rfl, ?_, hM, fun x hx => Nat.le_of_lt_succ (List.mem_range.mp (r2 x hx)), fun i h j h1 h2 => ?_⟩, rfl, rfl, rfl⟩
  · show ((liveOf M ow).map fun q => q.1).length = (((liveOf M ow).map fun q => q.2).map fun i => hs.getD i 0).length
    rw [List.length_map, List.length_map, List.length_map]
  · have h1 : (((liveOf M ow).map fun q => q.2).map fun i => hs.getD i 0)[i]? = some h := h1
    have h2 : ((liveOf M ow).map fun q => q.1)[i]? = some j := h2
    rw [List.getElem?_map, List.getElem?_map] at h1
    rw [List.getElem?_map] at h2
    cases hq : (liveOf M ow)[i]? with
    | none =>
      rw [hq] at h2
      cases h2
    | some q =>
      obtain ⟨y, k⟩ := q
      rw [hq] at h1 h2
      have h1 : some (hs.getD k 0) = some h := h1
      cases h2
      obtain ⟨b1, b2⟩ := (mem_live W.sz).1 (List.mem_of_getElem? hq)
      obtain ⟨g, K, a1, a2, a3⟩ := W.at_ y k b1 b2
      have e0 : hs.getD k 0 = g := by
        rw [Array.getD_eq_getD_getElem?, ← Array.getElem?_toList, a1]
        rfl
      rw [e0] at h1
      rw [show g = h from Option.some.inj h1] at a1 a2 a3
      refine ⟨K, a2, fun c hc => ?_⟩
      show way M h c ∈ (liveOf M ow).map fun q => q.1
      cases z : oAt ow (way M h c) with
      | none => exact absurd z (a3 c hc)
      | some k2 => exact List.mem_map.mpr ⟨(way M h c, k2), (mem_live W.sz).2 ⟨way_in M h c, z⟩, rfl⟩
end TG
set_option Elab.async false
set_option linter.all false
set_option maxRecDepth 100000
set_option maxHeartbeats 4000000
/-! TG2: sets of some thousands of tuples of ints: asked, added to. -/
namespace TG
open PySem PySem.Spec PyProof.Rows L2
section
variable {P : Program} {w : World} {A : Around} {E : Value → Shared → Prop} {s : Shared} {a : Addr} {L : List (Addr × List Int)} {es : Array (Int × Value)} {ep : Nat} {t : SetTable}
/-- at a stands a set of the tuples L -/
structure SetG (P : Program) (w : World) (h : Heap) (a : Addr) (L : List (Addr × List Int)) (es : Array (Int × Value)) (ep : Nat) (t : SetTable) : Prop where
  at_ : ∃ o, h.get? a = some o ∧ o.ExactSet ∧ o.data = .set es ep t
  rw_ : es.toList = rowsOf P w L
  tb : Tb t (L.map fun p => thash P w p.2)
  un : (L.map fun p => p.2).Nodup
  ts : ∀ p ∈ L, IsT P w h p.2 p.1
  pl : t.plain = true
  ld : w.params.followText "set-order" = true ∨ t.led = true
  ro : L.length * 5 < t.mask * 3
theorem SetG.n (R : SetG P w s.heap a L es ep t) : es.size = L.length := by
  have h := congrArg List.length R.rw_
  rw [Array.length_toList] at h
  rw [h]
  exact List.length_map _
theorem SetG.pn (R : SetG P w s.heap a L es ep t) : t.place.toList.length = L.length := by
  rw [R.tb.ln, List.length_map]
theorem SetG.fit (R : SetG P w s.heap a L es ep t) : t.fits es.size = true := by
  have h1 := R.pn
  rw [Array.length_toList] at h1
  have h2 := R.n
  have h3 := R.ro
  unfold SetTable.fits SetTable.fill
  rw [R.tb.du, Bool.and_eq_true, beq_iff_eq, decide_eq_true_eq]
  exact ⟨by omega, by show t.place.size + 0 ≤ t.mask; omega⟩
theorem SetG.row (R : SetG P w s.heap a L es ep t) {i : Nat} {p : Addr × List Int} (h : L[i]? = some p) : es[i]? = some (thash P w p.2, Value.ref p.1) := by
  rw [← Array.getElem?_toList, R.rw_]
  show (L.map fun p => (thash P w p.2, Value.ref p.1))[i]? = _
  rw [List.getElem?_map, h]
  rfl
theorem SetG.way_ok (R : SetG P w s.heap a L es ep t) : ¬ t.gaveWay = true := by
  have h := mk_odd R.tb.ms
  unfold SetTable.gaveWay
  rw [h]
  decide
abbrev st0 (m : Nat) (h : Int) : SetTable.Probe := runAt m (SetTable.bits h % (m + 1)) (SetTable.bits h)
theorem nth_dummy (m : Nat) : ∀ (n : Nat) (p : SetTable.Probe), p.dummy = none → (nth m p n).dummy = none
  | 0, _, h => h
  | n + 1, p, h => nth_dummy m n (adv m p) (by
    unfold adv
    split
    · exact h
    · exact h)
/-- the search from the c-th place of its way on, up to the first gap K -/
theorem seek (R : SetG P w s.heap a L es ep t) {x : Addr} {k : List Int} (hx : IsT P w s.heap k x) (hu : A.units < cLine) {K : Nat} (hK : K < 10 * (t.mask + 15)) (gap : way t.mask (thash P w k) K ∉ t.place.toList) (full : ∀ c, c < K → way t.mask (thash P w k) c ∈ t.place.toList)
    {Q : SetFound → Shared → Prop} (yes : k ∈ L.map (fun p => p.2) → Q (.there none) s) (no : k ∉ L.map (fun p => p.2) → Q (.free (way t.mask (thash P w k) K) false) s) :
    ∀ (f c : Nat) (stand : Option SetTable.Probe), K < c + f → c ≤ K → stand.getD (t.probeStart (thash P w k)) = nth t.mask (st0 t.mask (thash P w k)) c →
      (∀ (i : Nat) p, L[i]? = some p → p.2 = k → ∃ d, c ≤ d ∧ d < K ∧ t.place.toList[i]? = some (way t.mask (thash P w k) d)) →
      wpAny (model P w) A (setSearchFrom a (.ref x) (thash P w k) true f stand) Q E s
  | 0, c, _, h1, h2, _, _ => by omega
  | f + 1, c, stand, h1, h2, h3, left => by
    obtain ⟨o, ho, hex, hd⟩ := R.at_
    have jn : ∀ q, (nth t.mask (nth t.mask (st0 t.mask (thash P w k)) c) q).j = way t.mask (thash P w k) (c + q) := fun q => by rw [← nth_add]
    have spec := go_spec t R.tb.ri R.tb.du (fun i => (es[i]?.map (·.1)).getD 0) (thash P w k) (10 * SetTable.turns t.mask) (K - c) (nth t.mask (st0 t.mask (thash P w k)) c) (nth_dummy _ _ _ rfl) (by show K - c < 10 * (t.mask + 15); omega)
      (fun q hq => by rw [jn]; exact full _ (by omega)) (by rw [jn, show c + (K - c) = K by omega]; exact gap)
    have hash_at : ∀ (i : Nat) p, L[i]? = some p → (es[i]?.map (·.1)).getD 0 = thash P w p.2 := fun i p hp => by
      rw [R.row hp]
      rfl
    rw [setSearchFrom_succ]
    refine wpAny_bind (wpAny_setState_of ho hd R.fit ?_)
    dsimp only
    refine wp_if_neg R.way_ok ?_
    try refine wpAny_bind (wpAny_pure ?_)
    rw [h3]
    rcases spec with ⟨q, i, hq, hi, hh, ne, pr⟩ | ⟨ne, pr⟩
    · -- one of this hash stands on the way
      rw [jn] at hi
      have hil : i < L.length := by
        rw [← R.pn]
        exact (List.getElem?_eq_some_iff.mp hi).1
      obtain ⟨p, hp⟩ : ∃ p, L[i]? = some p := ⟨_, List.getElem?_eq_getElem hil⟩
      have hpm := List.mem_of_getElem? hp
      have live := slot_live R.tb.ri hi
      have pr' : t.probe (fun i => (es[i]?.map (·.1)).getD 0) (thash P w k) (nth t.mask (st0 t.mask (thash P w k)) c) = some (.candidate (way t.mask (thash P w k) (c + q)) i (nth t.mask (st0 t.mask (thash P w k)) (c + (q + 1)))) := by
        rw [← jn, nth_add t.mask c _ (q + 1)]
        exact pr
      rw [pr']
      dsimp only
      have rest : wpAny (model P w) A (searchRest a (.ref x) (thash P w k) true f es t (way t.mask (thash P w k) (c + q)) i (nth t.mask (st0 t.mask (thash P w k)) (c + (q + 1)))) Q E s := by
        unfold searchRest
        rw [R.row hp]
        dsimp only
        refine wpAny_bind (wpAny_holding (wpAny_eqBool_tuple hu (R.ts p hpm) hx ?_))
        refine wpAny_bind (wpAny_setState_of ho hd R.fit ?_)
        dsimp only
        by_cases same : p.2 = k
        · refine wp_if_pos (by simp [same]) (wpAny_pure (yes ?_))
          rw [← same]
          exact List.mem_map.mpr ⟨p, hpm, rfl⟩
        · refine wp_if_neg (by simp [same]) ?_
          try refine wpAny_bind (wpAny_pure ?_)
          rw [sameMem]
          dsimp only
          simp only [if_true, live, R.row hp]
          refine wpAny_bind (wpAny_isSame_ref_self (wpAny_bind (wpAny_pure ?_)))
          simp only [if_true]
          refine wp_if_neg (by simp [same]) ?_
          refine seek R hx hu hK gap full yes no f (c + (q + 1)) _ (by omega) (by omega) rfl fun j r hj hr => ?_
          obtain ⟨d, d1, d2, d3⟩ := left j r hj hr
          refine ⟨d, ?_, d2, d3⟩
          by_cases z : d < c + q
          · refine absurd ((hash_at j r hj).trans (by rw [hr])) (ne (d - c) j (by omega) ?_)
            rw [jn, show c + (d - c) = d by omega]
            exact d3
          · by_cases y : d = c + q
            · rw [y] at d3
              have l2 := slot_live R.tb.ri d3
              rw [live] at l2
              injection l2 with l2
              rw [← l2, hp] at hj
              exact absurd ((congrArg (fun r : Addr × List Int => r.2) (Option.some.inj hj)).trans hr) same
            · omega
      by_cases ld : t.led = true
      · refine wp_if_neg (by simp [ld]) ?_
        try refine wpAny_bind (wpAny_pure ?_)
        exact rest
      · refine wp_if_pos (by simp [ld]) ?_
        refine wpAny_bind (seen_tup hx (fun y hy => ?_) ?_)
        · obtain ⟨e, he, rfl⟩ := List.mem_map.mp hy
          have he : e ∈ es.toList := by
            have z : e ∈ es ∧ e.1 = thash P w k := by simpa using he
            simpa using z.1
          rw [R.rw_] at he
          obtain ⟨r, hr, rfl⟩ := List.mem_map.mp he
          exact ⟨r.2, r.1, rfl, R.ts r hr⟩
        · refine wp_if_neg (by decide) ?_
          try refine wpAny_bind (wpAny_pure ?_)
          exact rest
    · -- none does
      have pr' : t.probe (fun i => (es[i]?.map (·.1)).getD 0) (thash P w k) (nth t.mask (st0 t.mask (thash P w k)) c) = some (.empty (way t.mask (thash P w k) K) none) := by
        rw [show way t.mask (thash P w k) K = (nth t.mask (nth t.mask (st0 t.mask (thash P w k)) c) (K - c)).j by rw [jn, show c + (K - c) = K by omega]]
        exact pr
      rw [pr']
      dsimp only
      refine wpAny_pure (no fun hm => ?_)
      obtain ⟨r, hr, e⟩ := List.mem_map.mp hm
      obtain ⟨j, hj, ej⟩ := List.getElem_of_mem hr
      have hj2 : L[j]? = some r := by rw [List.getElem?_eq_getElem hj, ej]
      obtain ⟨d, d1, d2, d3⟩ := left j r hj2 e
      refine absurd ((hash_at j r hj2).trans (by rw [e])) (ne (d - c) j (by omega) ?_)
      rw [jn, show c + (d - c) = d by omega]
      exact d3
theorem asked (R : SetG P w s.heap a L es ep t) {x : Addr} {k : List Int} (hx : IsT P w s.heap k x) (hu : A.units < cLine) {Q : SetFound → Shared → Prop} (yes : k ∈ L.map (fun p => p.2) → Q (.there none) s)
    (no : ∀ j, k ∉ L.map (fun p => p.2) → j ∉ t.place.toList → (∃ K, way t.mask (thash P w k) K = j ∧ ∀ c, c < K → way t.mask (thash P w k) c ∈ t.place.toList) → Q (.free j false) s) :
    wpAny (model P w) A (setSearch a (.ref x) (thash P w k) true) Q E s := by
  have ro := R.ro
  have ml := mk_le R.tb.ms
  obtain ⟨K, h1, h2, h3⟩ := R.tb.gap (by rw [List.length_map]; omega) (thash P w k)
  unfold setSearch
  refine seek R hx hu h1 h2 h3 yes (fun z => no _ z h2 ⟨K, rfl, h3⟩) 100000 0 none (by omega) (Nat.zero_le _) rfl fun i p hp e => ?_
  have hil : i < t.place.toList.length := by
    rw [R.pn]
    exact (List.getElem?_eq_some_iff.mp hp).1
  have hj := List.getElem?_eq_getElem hil
  obtain ⟨d, d1, d2⟩ := R.tb.ahead h2 (show (L.map fun p => thash P w p.2)[i]? = some (thash P w k) by rw [List.getElem?_map, hp, ← e]; rfl) hj
  exact ⟨d, Nat.zero_le _, d1, by rw [hj, d2]⟩
/-- a set that has grown is laid anew -/
theorem anew {o : Obj} (ho : s.heap.get? a = some o) (hex : o.ExactSet) (hd : o.data = .set es ep t) (hr : es.toList = rowsOf P w L) (pn : t.place.size = L.length) (du : t.dummies = #[]) (le : L.length ≤ t.mask) (un : (L.map fun p => p.2).Nodup) (ts : ∀ p ∈ L, IsT P w s.heap p.2 p.1)
    (pl : t.plain = true) (ld : w.params.followText "set-order" = true ∨ t.led = true) {wanted M : Nat} (hw : SetTable.sizeAbove wanted = M + 1) (hM : Mk M) (hn : L.length * 5 < M * 3) {Q : Unit → Shared → Prop}
    (hQ : ∀ h' L' es' ep' t', Heap.SameBut a s.heap h' → SetG P w h' a L' es' ep' t' → L'.Perm L → Q () { s with heap := h' }) : wpAny (model P w) A (setRelay a wanted) Q E s := by
  have ml := mk_le hM
  have en : es.size = L.length := by
    have h := congrArg List.length hr
    rw [Array.length_toList] at h
    rw [h]
    exact List.length_map _
  have fit : t.fits es.size = true := by
    unfold SetTable.fits SetTable.fill
    rw [du, Bool.and_eq_true, beq_iff_eq, decide_eq_true_eq]
    exact ⟨by omega, by show t.place.size + 0 ≤ t.mask; omega⟩
  obtain ⟨t2, order, e, pm, T, em, el, epl⟩ := relaid t (hs := es.map (·.1)) hw hM (by rw [Array.size_map, en]; omega)
  rw [Array.size_map, en] at pm
  obtain ⟨L2, r1, r2, r3⟩ := order_rows L es order hr pm
  rw [← r3] at T
  have n2 : (order.filterMap (es[·]?)).size = es.size := by
    have h := congrArg List.length r1
    rw [Array.length_toList] at h
    rw [h, en, ← r2.length_eq]
    exact List.length_map _
  rw [setRelay_eq]
  refine wpAny_bind (wpAny_setState_of ho hd fit ?_)
  dsimp only
  refine wp_if_neg (by rw [sizeLine_eq, hw]; omega) ?_
  try refine wpAny_bind (wpAny_pure ?_)
  rw [e]
  dsimp only
  refine wpAny_bind (wp_if_neg (by rw [n2]; simp) ?_)
  try refine wpAny_bind (wpAny_pure ?_)
  refine wpAny_pure ?_
  dsimp only
  refine wpAny_storeSet_of ho hd ?_ (by rw [n2, en, sizeLine_eq]; omega)
  have sb : Heap.SameBut a s.heap (s.heap.update a (Obj.putSet (order.filterMap (es[·]?)) t2)) := Heap.SameBut.update ..
  exact hQ _ L2 _ (ep + 1) t2 sb ⟨⟨_, store_at ho hd, ⟨hex.1, hex.2.1, hex.2.2⟩, rfl⟩, r1, T, (r2.map _).nodup_iff.mpr un, fun p hp => isT_same (ts p (r2.mem_iff.mp hp)) ho hd sb, by rw [epl]; exact pl, by rw [el]; exact ld, by rw [r2.length_eq, em]; exact hn⟩ r2
/-- how far a table is laid, by its mask and what is in it when it is full -/
theorem steps {m n : Nat} (hm : Mk m) (h1 : n * 5 < m * 3) (h2 : m * 3 ≤ (n + 1) * 5) (h3 : n < 4800) : ∃ M, SetTable.sizeAbove (SetTable.grown (n + 1)) = M + 1 ∧ Mk M ∧ (n + 1) * 5 < M * 3 := by
  unfold Mk at hm
  rcases hm with rfl | rfl | rfl | rfl | rfl | rfl
  · obtain rfl : n = 4 := by omega
    exact ⟨31, by decide +kernel, by unfold Mk; omega, by omega⟩
  · obtain rfl : n = 18 := by omega
    exact ⟨127, by decide +kernel, by unfold Mk; omega, by omega⟩
  · obtain rfl : n = 76 := by omega
    exact ⟨511, by decide +kernel, by unfold Mk; omega, by omega⟩
  · obtain rfl : n = 306 := by omega
    exact ⟨2047, by decide +kernel, by unfold Mk; omega, by omega⟩
  · obtain rfl : n = 1228 := by omega
    exact ⟨8191, by decide +kernel, by unfold Mk; omega, by omega⟩
  · omega
/-- one is added -/
theorem added (R : SetG P w s.heap a L es ep t) {x : Addr} {k : List Int} (hx : IsT P w s.heap k x) (hu : A.units < cLine) (few : L.length < 4800) {Q : Bool → Shared → Prop}
    (hQ : ∀ b h' L' es' ep' t', Heap.SameBut a s.heap h' → SetG P w h' a L' es' ep' t' → (k ∈ L.map (fun p => p.2) → L' = L) → (k ∉ L.map (fun p => p.2) → L'.Perm ((x, k) :: L)) → Q b { s with heap := h' }) :
    wpAny (model P w) A (setAddHashed a (.ref x) (thash P w k)) Q E s := by
  obtain ⟨o, ho, hex, hd⟩ := R.at_
  have en := R.n
  have ro := R.ro
  unfold setAddHashed
  refine wpAny_holding ?_
  rw [show (100000 : Nat) = 99999 + 1 from rfl, setAddHashedIn_succ]
  refine wpAny_bind (wpAny_setState_of ho hd R.fit ?_)
  dsimp only
  refine wp_if_neg (by simp [byScan, Value.scannable]) ?_
  try refine wpAny_bind (wpAny_pure ?_)
  refine wpAny_bind (asked R hx hu (fun hm => ?_) fun j hm nj way => ?_)
  · dsimp only
    exact wpAny_pure (hQ false s.heap L es ep t (Heap.SameBut.refl a s.heap) R (fun _ => rfl) fun z => absurd hm z)
  dsimp only
  refine wpAny_bind (wpAny_setState_of ho hd R.fit ?_)
  dsimp only
  obtain ⟨ph, T1, fl⟩ := R.tb.more rfl way nj
  have q2 : (t.put j).2 = SetTable.below t.place j := rfl
  have q4 : (t.put j).1.mask = t.mask := rfl
  have q5 : (t.put j).1.led = t.led := rfl
  have q6 : (t.put j).1.plain = t.plain := rfl
  rw [List.length_map] at ph fl
  generalize hpp : SetTable.below t.place j = p at q2 ph T1
  generalize hpt : t.put j = pt at q2 q4 q5 q6 T1 fl ⊢
  obtain ⟨t1, p1⟩ := pt
  dsimp only at q2 q4 q5 q6 T1 fl ⊢
  subst q2
  have pl1 : t1.plain = true := by rw [q6]; exact R.pl
  first
    | (refine wpAny_bind ?_; refine wp_if_pos pl1 ?_; refine hashBy_tup hx ?_)
    | refine wp_if_pos pl1 (wpAny_bind (hashBy_tup hx ?_))
  simp only [if_true]
  have rows1 : (SetTable.insertAt es p1 (thash P w k, Value.ref x)).toList = rowsOf P w (L.take p1 ++ (x, k) :: L.drop p1) := by
    rw [SetTable.toList_insertAt, rows_put, R.rw_]
  have pm := put_perm L p1 (x, k)
  have hh : (L.map fun p => thash P w p.2).take p1 ++ thash P w k :: (L.map fun p => thash P w p.2).drop p1 = (L.take p1 ++ (x, k) :: L.drop p1).map fun p => thash P w p.2 := by
    rw [List.map_append, List.map_cons, List.map_take, List.map_drop]
  rw [hh] at T1
  generalize L.take p1 ++ (x, k) :: L.drop p1 = L1 at rows1 pm T1
  have l1 : L1.length = L.length + 1 := pm.length_eq
  have e1 : (SetTable.insertAt es p1 (thash P w k, Value.ref x)).size = L.length + 1 := by
    have h := congrArg List.length rows1
    rw [Array.length_toList] at h
    rw [h, ← l1]
    exact List.length_map _
  generalize SetTable.insertAt es p1 (thash P w k, Value.ref x) = es1 at rows1 e1 ⊢
  have un1 : (L1.map fun p => p.2).Nodup := by
    refine (pm.map _).nodup_iff.mpr ?_
    rw [List.map_cons]
    exact List.nodup_cons.mpr ⟨hm, R.un⟩
  have ml := mk_le R.tb.ms
  refine wpAny_bind (wpAny_storeSet_of ho hd ?_ (by rw [e1, sizeLine_eq]; omega))
  have sb : Heap.SameBut a s.heap (s.heap.update a (Obj.putSet es1 t1)) := Heap.SameBut.update ..
  have ho1 := store_at (es' := es1) (t' := t1) ho hd
  generalize s.heap.update a (Obj.putSet es1 t1) = h1 at sb ho1 ⊢
  have ts1 : ∀ p ∈ L1, IsT P w h1 p.2 p.1 := fun p hp => by
    rcases List.mem_cons.mp (pm.mem_iff.mp hp) with e | hp
    · rw [e]
      exact isT_same hx ho hd sb
    · exact isT_same (R.ts p hp) ho hd sb
  have ld1 : w.params.followText "set-order" = true ∨ t1.led = true := by rw [q5]; exact R.ld
  have tf : t1.tooFull = decide ((L.length + 1) * 5 ≥ t1.mask * 3) := by
    unfold SetTable.tooFull
    rw [fl]
  by_cases hf : t1.tooFull = true
  · first
      | (refine wpAny_bind ?_; refine wp_if_pos (by simp [hf]) ?_)
      | (refine wp_if_pos (by simp [hf]) ?_; refine wpAny_bind ?_)
    have full := of_decide_eq_true (tf.symm.trans hf)
    rw [q4] at full
    obtain ⟨M, m1, m2, m3⟩ := steps R.tb.ms ro full few
    rw [en]
    refine anew (s := { s with heap := h1 }) ho1 ⟨hex.1, hex.2.1, hex.2.2⟩ rfl rows1 (by rw [← Array.length_toList, T1.ln, List.length_map]) T1.du (by rw [l1, q4]; omega) un1 ts1 pl1 ld1 m1 m2 (by rw [l1]; exact m3) fun h2 L2 es2 ep2 t2 sb2 R2 pm2 => ?_
    exact wpAny_pure (hQ true h2 L2 es2 ep2 t2 (sb.trans sb2) R2 (fun z => absurd z hm) fun _ => pm2.trans pm)
  · have room := of_decide_eq_false (tf.symm.trans (Bool.eq_false_iff.mpr hf))
    have fin := hQ true h1 L1 es1 (ep + 1) t1 sb ⟨⟨_, ho1, ⟨hex.1, hex.2.1, hex.2.2⟩, rfl⟩, rows1, T1, un1, ts1, pl1, ld1, by rw [l1]; omega⟩ (fun z => absurd z hm) fun _ => pm
    first
      | (refine wp_if_neg (by simp [hf]) ?_; exact wpAny_pure fin)
      | (refine wpAny_bind ?_; refine wp_if_neg (by simp [hf]) ?_; exact wpAny_pure (wpAny_pure fin))
theorem SetG.stays {h h' : Heap} (R : SetG P w h a L es ep t) (ha : ∀ o, h.get? a = some o → h'.get? a = some o) (ht : ∀ p ∈ L, IsT P w h' p.2 p.1) : SetG P w h' a L es ep t := by
  obtain ⟨o, ho, r⟩ := R.at_
  exact ⟨⟨o, ha o ho, r⟩, R.rw_, R.tb, R.un, ht, R.pl, R.ld, R.ro⟩
theorem SetG.first {h : Heap} {a : Addr} (ho : h.get? a = some { cls := .type "set", dict := none, data := .set #[] 0 (.fresh 0 0 (!w.params.followText "set-order")) }) : SetG P w h a [] #[] 0 (.fresh 0 0 (!w.params.followText "set-order")) :=
  ⟨⟨_, ho, ⟨rfl, rfl, rfl⟩, rfl⟩, rfl, ⟨List.Pairwise.nil, rfl, rfl, .inl rfl, (fun _ hx => nomatch hx), fun i h j hi => by simp at hi⟩, List.nodup_nil, (fun _ hp => nomatch hp), rfl, by
    show _ ∨ (!w.params.followText "set-order") = true
    cases w.params.followText "set-order"
    · exact .inr rfl
    · exact .inl rfl, by show 0 * 5 < 7 * 3; decide⟩
end
end TG
set_option Elab.async false
set_option linter.all false
set_option maxRecDepth 100000
set_option maxHeartbeats 4000000
/-! TG3: set(list) as a call, whatever the loop over the items does; sets of many tuples, of many ints; sorted(set of ints). -/
namespace TG
open PySem PySem.Spec PyProof.Rows L2
abbrev fresh0 (w : World) : Obj := { cls := .type "set", dict := none, data := .set #[] 0 (.fresh 0 0 (!w.params.followText "set-order")) }
section
variable {P : Program} {w : World} {A : Around} {E : Value → Shared → Prop} {s : Shared}
/-- what the loop is asked to do: S the set, from a heap that keeps h0 -/
def Loops (P : Program) (w : World) (A : Around) (h0 : Heap) (items : Array Value) (S : Addr) (Post : Heap → Prop) : Prop :=
  ∀ {I : Addr} {fp wr : List Addr} {G : Array GenState → Array GenState → Prop} {Pv : Nat → Value → Prop} {St : Nat → Shared → Prop} {R : Result → Shared → Prop} (W : WalksS P w A.in1 I fp wr G items.size Pv St) (s1 : Shared),
    S ∉ fp → (∀ i v, Pv i v → items[i]? = some v) → (∀ b ∈ wr, h0.get? b = none) → h0.get? S = none → St 0 s1 → s1.heap.get? S = some (fresh0 w) → (∀ b o, h0.get? b = some o → s1.heap.get? b = some o) →
    (∀ s2, Moved (S :: wr) G s1 s2 → Post s2.heap → R (.ok (.ret .none)) s2) → codeAny (model P w) A (.builtin "set.update.loop" ⟨[.ref S, .ref I], []⟩) R s1
theorem call_setG {l : Addr} {items : Array Value} {Q : Value → Shared → Prop} (Post : Heap → Prop) (hh : A.handled = none) (hl : s.heap.IsList l items) (lp : ∀ A' : Around, A'.units ≤ A.units + 5 → A'.handled = none → Loops P w A' s.heap items s.heap.objs.size Post)
    (h : ∀ (h' : Heap) (tk : Nat), Post h' → (∀ b o, b < s.heap.objs.size → s.heap.get? b = some o → h'.get? b = some o) → Q (.ref s.heap.objs.size) { s with heap := h', toks := tk }) :
    wpAny (model P w) A (call (.type "set") [.ref l]) Q E s := by
  obtain ⟨c, tl, hmro⟩ := PySem.F.called_set.mro
  have hmade := PySem.F.called_set.made
  have hsub := PySem.F.called_set.sub
  refine wpAny_call (codeAny_of_tree ?_)
  show wpAny _ _ (callAny (.type "set") _) _ _ _
  refine wpAny_pure ⟨Code.quiet_builtin _ (by decide +kernel), codeAny_builtin PySem.F.entry_type_call ?_⟩
  rw [Around.under_plain (weight_type_call_type "set" [.ref l] []) rfl]
  have h1 := PySem.F.called_set.notType
  have h2 := PySem.F.called_set.canCreate
  have hct := PySem.F.typeCall_set_1 (.ref l)
  repeat (any_goals (first | assumption | wp_step))
  refine codeAny_mono (code_set_led1 (.ref l) (E := E) (Q₁ := fun obj s₁ => obj = .ref s.heap.objs.size ∧ s₁ = { s with heap := s.heap.push (fresh0 w) }) ⟨rfl, rfl⟩) fun r s₁ hr => ?_
  match r, hr with
  | .error e, hr => exact hr
  | .ok (.ret obj), hr =>
    obtain ⟨rfl, rfl⟩ := hr
    have hS : (s.heap.push (fresh0 w)).get? s.heap.objs.size = some (fresh0 w) := Heap.get?_push_size _ rfl
    have hT : Shared.TypeIs { s with heap := s.heap.push (fresh0 w) } (.ref s.heap.objs.size) "set" := ⟨_, hS, rfl⟩
    have hli := PySem.F.called_set.init.lookup
    have hbi := PySem.F.called_set.init.bind (.ref s.heap.objs.size)
    repeat (any_goals (first | assumption | wp_step))
    refine codeAny_mono (codeAny_call_builtin (R := wants (fun r s₂ => r = .none ∧ ∃ h' tk, s₂ = { s with heap := h', toks := tk } ∧ Post h' ∧ (∀ b o, b < s.heap.objs.size → s.heap.get? b = some o → h'.get? b = some o)) E) PySem.F.called_set.init.plain PySem.F.entry_set_init (check_set_init_1 hT ?_)) fun r₂ s₂ hr₂ => ?_
    · obtain ⟨ol, hol, hcl, nl, hdl⟩ := hl
      obtain ⟨ocls, odict, odata, oslots⟩ := ol
      simp only at hcl hdl
      subst hcl; subst hdl
      have hol' : (s.heap.push (fresh0 w)).get? l = some { cls := .type "list", dict := odict, data := .seq items nl, slots := oslots } := Heap.get?_push_of_some _ hol
      have hsls := PySem.F.sub_list_set
      have hslf := PySem.F.sub_list_frozenset
      have hne : (Value.type "list" == Value.type "dict") = false := by decide
      have hl1 : (s.heap.push (fresh0 w)).IsList l items := ⟨_, hol', rfl, nl, rfl⟩
      unfold Builtin.«set.__init__» noKeywords Builtin.Frozenset.updateFrom
      generalize hPI : pyIter = PI
      wp_walk
      subst hPI
      refine wpAny_pyIter_list hl1 ?_
      refine wpAny_bind (wpAny_runValue ?_)
      have hlS : l < s.heap.objs.size := Heap.lt_size hol
      have hh3 : A.in1.in1.in1.handled = none := by simp [hh]
      have hneI : l ≠ (s.heap.push (fresh0 w)).objs.size := by
        rw [Heap.size_push]; exact Nat.ne_of_lt (Nat.lt_succ_of_lt hlS)
      have hSf : s.heap.objs.size ∉ [(s.heap.push (fresh0 w)).objs.size, l] := by
        rw [Heap.size_push]; simp only [List.mem_cons, List.mem_singleton, List.not_mem_nil, or_false, not_or]
        exact ⟨Nat.ne_of_lt (Nat.lt_succ_self _), Nat.ne_of_gt hlS⟩
      have above : ∀ b, s.heap.objs.size ≤ b → s.heap.get? b = none := fun b hb => by
        cases q : s.heap.get? b with
        | none => rfl
        | some o => exact absurd (Nat.lt_of_lt_of_le (Heap.lt_size q) hb) (Nat.lt_irrefl _)
      refine lp _ ?hun (by simp [hh]) ((Walks.list hh3 _ l hneI items).toS) _ hSf (fun i v hv => hv) (fun b hb => above b ?hwr) (above _ (Nat.le_refl _)) ⟨⟨_, Heap.get?_push_size _ rfl, rfl, rfl⟩, (hl1.push _)⟩ (Heap.get?_push_of_some _ hS) (fun b o e => Heap.get?_push_of_some _ (Heap.get?_push_of_some _ e)) ?hR
      case hun =>
        have e : A.in1.in1.units = A.units + 2 := rfl
        omega
      case hwr =>
        rw [List.mem_singleton.mp hb, Heap.size_push]
        exact Nat.le_succ _
      case hR =>
        intro s' hm hP
        obtain ⟨h', g', d', tk', os'⟩ := s'
        have eg : g' = s.gens := hm.gens
        have ed : d' = s.drawn := hm.drawn
        have eo : os' = s.os := hm.os
        subst eg; subst ed; subst eo
        show wpAny _ _ _ _ _ _
        refine wpAny_pure ?_
        show wpAny _ _ (ret Value.none) _ _ _
        refine wpAny_pure ⟨rfl, h', tk', rfl, hP, fun b o hb e => ?_⟩
        have hb1 : b ≠ s.heap.objs.size := Nat.ne_of_lt hb
        have hb2 : b ≠ (s.heap.push (fresh0 w)).objs.size := by
          rw [Heap.size_push]; exact Nat.ne_of_lt (Nat.lt_succ_of_lt hb)
        exact hm.heap b o (by simp only [List.mem_cons, List.mem_singleton, List.not_mem_nil, or_false, not_or]; exact ⟨hb1, hb2⟩) (Heap.get?_push_of_some _ (Heap.get?_push_of_some _ e))
    · match r₂, hr₂ with
      | .error e, hr₂ => exact hr₂
      | .ok (.ret r), hr₂ =>
        obtain ⟨rfl, h', tk, rfl, hP, hk'⟩ := hr₂
        repeat (any_goals (first | assumption | wp_step))
        exact h _ _ hP hk'
/-- the loop over tuples -/
theorem loops_tups {h0 : Heap} {items : Array Value} {S : Addr} (ks : List (Addr × List Int)) (hit : items.toList = ks.map fun p => Value.ref p.1) (hk : ∀ p ∈ ks, IsT P w h0 p.2 p.1) (few : ks.length < 4800) (hu : A.in1.units < cLine) :
    Loops P w A h0 items S fun h' => ∃ L es ep t, SetG P w h' S L es ep t ∧ Got ks ks.length L := by
  intro I fp wr G Pv St R W s1 hSf hval hwr hS0 hst hS keep hR
  have hn : items.size = ks.length := by rw [← Array.length_toList, hit, List.length_map]
  have hSw : S ∉ wr := fun z => hSf (W.sub _ z)
  have hsub : ∀ b ∈ wr, b ∈ S :: wr := fun b hb => List.mem_cons_of_mem _ hb
  have item : ∀ i v, Pv i v → ∃ p, ks[i]? = some p ∧ v = .ref p.1 := fun i v hv => by
    have q := hval i v hv
    rw [← Array.getElem?_toList, hit, List.getElem?_map] at q
    cases hq : ks[i]? with
    | none => rw [hq] at q; cases q
    | some p =>
      rw [hq] at q
      exact ⟨p, rfl, (Option.some.inj q).symm⟩
  have gen : ∀ (k i : Nat) (s2 : Shared), items.size - i = k → i ≤ items.size → St i s2 → (∀ b o, h0.get? b = some o → s2.heap.get? b = some o) → (∃ L es ep t, SetG P w s2.heap S L es ep t ∧ Got ks i L) →
      (∀ s3, Moved (S :: wr) G s2 s3 → (∃ L es ep t, SetG P w s3.heap S L es ep t ∧ Got ks ks.length L) → R (.ok (.ret .none)) s3) → codeAny (model P w) A (.builtin "set.update.loop" ⟨[.ref S, .ref I], []⟩) R s2 := by
    intro k
    induction k with
    | zero =>
      intro i s2 hk0 hi hst2 kp hL hR
      obtain ⟨L, es, ep, t, hSG, g⟩ := hL
      obtain rfl : i = items.size := by omega
      refine codeAny_builtin PyProof.Rows.F.entry_set_update_loop ?_
      rw [Around.under_plainId PyProof.Rows.F.plain_set_update_loop _]
      show wpAny _ A.in1 (pyNext (.ref I) >>= _) _ _ s2
      refine wpAny_bind (W.done s2 _ _ hst2 fun s3 hm => ?_)
      show wpAny _ A.in1 (ret Value.none) _ _ s3
      refine wpAny_pure (hR s3 (hm.mono hsub) ⟨L, es, ep, t, hSG.stays (fun o e => hm.heap S o hSw e) fun p hp => ?_, by rw [← hn]; exact g⟩)
      exact isT_keep (hk p (List.mem_of_mem_take (g.sub p hp))) fun b o e => hm.heap b o (fun z => by rw [hwr b z] at e; cases e) (kp b o e)
    | succ k ih =>
      intro i s2 hk0 hi hst2 kp hL hR
      obtain ⟨L, es, ep, t, hSG, g⟩ := hL
      have hlt : i < items.size := by omega
      refine codeAny_builtin PyProof.Rows.F.entry_set_update_loop ?_
      rw [Around.under_plainId PyProof.Rows.F.plain_set_update_loop _]
      show wpAny _ A.in1 (pyNext (.ref I) >>= _) _ _ s2
      refine wpAny_bind (W.item i s2 _ _ hlt hst2 fun v s3 hP hst3 hm => ?_)
      obtain ⟨p, hp, rfl⟩ := item i v hP
      have kp3 : ∀ b o, h0.get? b = some o → s3.heap.get? b = some o := fun b o e => hm.heap b o (fun z => by rw [hwr b z] at e; cases e) (kp b o e)
      have hSG3 : SetG P w s3.heap S L es ep t := hSG.stays (fun o e => hm.heap S o hSw e) fun q hq => isT_keep (hk q (List.mem_of_mem_take (g.sub q hq))) kp3
      have hx : IsT P w s3.heap p.2 p.1 := isT_keep (hk p (List.mem_of_getElem? hp)) kp3
      show wpAny _ A.in1 (holding [Value.ref p.1] (setAdd S (.ref p.1)) >>= _) _ _ s3
      refine wpAny_bind (wpAny_holding ?_)
      unfold setAdd
      refine wpAny_holding (wpAny_bind (wpAny_pyHash_tuple hu hx ?_))
      have gl := g.len
      refine added (s := { s3 with toks := s3.toks + (p.2.length + 1) }) hSG3 hx hu (by omega) fun b h' L' es' ep' t' sb hSG4 c1 c2 => ?_
      have g4 : Got ks (i + 1) L' := by
        by_cases c : p.2 ∈ L.map fun q => q.2
        · rw [c1 c]
          exact g.same hp c
        · exact g.more hp (c2 c)
      refine wpAny_pure ⟨plainId_quiet PyProof.Rows.F.plain_set_update_loop _, ih (i + 1) _ (by omega) hlt (W.frame _ s3 _ _ hst3 (Nat.le_add_right _ _) fun b hb o e => ?_) (fun b o e => ?_) ⟨L', es', ep', t', hSG4, g4⟩ fun s4 hm4 hP4 => hR s4 (Moved.trans W.gtrans ((hm.mono hsub).then_heap (Nat.le_add_right _ _) fun b o hb e => ?_) hm4) hP4⟩
      · exact (sb.2 b fun z => hSf (by rw [← z]; exact hb)).trans e
      rotate_left
      · exact (sb.2 b fun z => hb (by rw [z]; exact List.mem_cons_self)).trans e
      · exact (sb.2 b fun z => by rw [z, hS0] at e; cases e).trans (kp3 b o e)
  exact gen (items.size - 0) 0 s1 rfl (Nat.zero_le _) hst keep ⟨[], #[], 0, _, SetG.first hS, Got.zero ks⟩ hR
end
end TG
set_option Elab.async false
set_option linter.all false
set_option maxRecDepth 100000
set_option maxHeartbeats 4000000
/-! DL26: len(set(..)) of many tuples of ints; sorted(set(..)) of many ints. -/
namespace TG
open PySem PySem.Spec PyProof.Rows L2
/-! ### each once -/
def uniq {α : Type} [DecidableEq α] : List α → List α
  | [] => []
  | x :: l => if x ∈ l then uniq l else x :: uniq l
section
variable {α : Type} [DecidableEq α]
theorem uniq_mem {y : α} : ∀ {l : List α}, y ∈ uniq l ↔ y ∈ l
  | [] => Iff.rfl
  | x :: l => by
    unfold uniq
    by_cases h : x ∈ l
    · rw [if_pos h, uniq_mem (l := l), List.mem_cons]
      exact ⟨.inr, fun z => z.elim (fun e => e ▸ h) id⟩
    · rw [if_neg h, List.mem_cons, List.mem_cons, uniq_mem (l := l)]
theorem uniq_nodup : ∀ l : List α, (uniq l).Nodup
  | [] => List.nodup_nil
  | x :: l => by
    unfold uniq
    by_cases h : x ∈ l
    · rw [if_pos h]
      exact uniq_nodup l
    · rw [if_neg h]
      exact List.nodup_cons.mpr ⟨fun z => h (uniq_mem.mp z), uniq_nodup l⟩
theorem uniq_le : ∀ l : List α, (uniq l).length ≤ l.length
  | [] => Nat.le_refl _
  | x :: l => by
    unfold uniq
    have := uniq_le l
    split
    · rw [List.length_cons]
      omega
    · rw [List.length_cons, List.length_cons]
      omega
theorem sub_len : ∀ {l m : List α}, l.Nodup → (∀ x ∈ l, x ∈ m) → l.length ≤ m.length
  | [], _, _, _ => Nat.zero_le _
  | x :: l, m, h, k => by
    obtain ⟨h1, h2⟩ := List.nodup_cons.mp h
    have hx := k x (by simp)
    have := sub_len (m := m.erase x) h2 fun y hy => (List.mem_erase_of_ne (fun (z : y = x) => h1 (by rw [← z]; exact hy))).mpr (k y (by simp [hy]))
    rw [List.length_erase_of_mem hx] at this
    have hp := List.length_pos_of_mem hx
    rw [List.length_cons]
    omega
theorem same_len {l m : List α} (h : l.Nodup) (k : m.Nodup) (e : ∀ x, x ∈ l ↔ x ∈ m) : l.length = m.length := Nat.le_antisymm (sub_len h fun x hx => (e x).mp hx) (sub_len k fun x hx => (e x).mpr hx)
end
/-- ints, each once, rising -/
def upI (ns : List Int) : List Int := (uniq ns).mergeSort fun a b => decide (a ≤ b)
theorem srt_eq : ∀ {l m : List Int}, l.Pairwise (· < ·) → m.Pairwise (· < ·) → (∀ x, x ∈ l ↔ x ∈ m) → l = m
  | [], [], _, _, _ => rfl
  | [], y :: m, _, _, e => absurd ((e y).mpr (by simp)) (by simp)
  | x :: l, [], _, _, e => absurd ((e x).mp (by simp)) (by simp)
  | x :: l, y :: m, h, k, e => by
    obtain ⟨h1, h2⟩ := List.pairwise_cons.mp h
    obtain ⟨k1, k2⟩ := List.pairwise_cons.mp k
    have exy : x = y := by
      have a : x = y ∨ x ∈ m := List.mem_cons.mp ((e x).mp (by simp))
      have b : y = x ∨ y ∈ l := List.mem_cons.mp ((e y).mpr (by simp))
      rcases a with a | a
      · exact a
      · rcases b with b | b
        · exact b.symm
        · have c := h1 y b
          have d := k1 x a
          omega
    subst exy
    rw [srt_eq h2 k2 fun z => ?_]
    constructor
    · intro hz
      rcases List.mem_cons.mp ((e z).mp (List.mem_cons_of_mem _ hz)) with q | q
      · have := h1 z hz
        omega
      · exact q
    · intro hz
      rcases List.mem_cons.mp ((e z).mpr (List.mem_cons_of_mem _ hz)) with q | q
      · have := k1 z hz
        omega
      · exact q
theorem upI_mem {ns : List Int} {x : Int} : x ∈ upI ns ↔ x ∈ ns := by
  unfold upI
  rw [List.mem_mergeSort, uniq_mem]
theorem upI_srt (ns : List Int) : (upI ns).Pairwise (· < ·) := by
  have h1 : (upI ns).Pairwise fun a b => decide (a ≤ b) = true := List.pairwise_mergeSort (fun a b c h1 h2 => by simp only [decide_eq_true_eq] at h1 h2 ⊢; omega) (fun a b => by simp only [Bool.or_eq_true, decide_eq_true_eq]; omega) (uniq ns)
  have h2 : (upI ns).Nodup := (List.mergeSort_perm (uniq ns) _).nodup_iff.mpr (uniq_nodup ns)
  refine L2.lt_of_le_nodup _ (h1.imp fun {a b} h => of_decide_eq_true h) h2
section
variable {P : Program} {w : World} {A : Around} {E : Value → Shared → Prop} {s : Shared}
theorem ints_item : ∀ {vs : List Value} {ns : List Int}, IntsAre vs ns → ∀ (i : Nat) (v : Value), vs[i]? = some v → ∃ k t, ns[i]? = some k ∧ v = .int k t
  | _, _, .nil, i, v, h => by simp at h
  | _, _, .cons n t h, 0, v, e => ⟨n, t, rfl, (Option.some.inj e).symm⟩
  | _, _, .cons n t h, i + 1, v, e => ints_item h i v e
theorem loops_ints {h0 : Heap} {items : Array Value} {S : Addr} (ns : List Int) (hit : IntsAre items.toList ns) (few : ns.length + 1 < scanBound) :
    Loops P w A h0 items S fun h' => ∃ c, c ≤ ns.length ∧ SetR w h' S (fun j => decide (j ∈ ns)) c := by
  intro I fp wr G Pv St R W s1 hSf hval hwr hS0 hst hS keep hR
  have hn : items.size = ns.length := by rw [← IntsAre.length hit, Array.length_toList]
  refine set_update_ints W S hSf ns hn few (fun i v hv => ?_) (items.size - 0) 0 s1 rfl (Nat.zero_le _) hst ⟨0, Nat.le_refl _, ?_⟩ fun s2 c hm hc hSR => hR s2 hm ⟨c, by omega, hSR⟩
  · have q := hval i v hv
    rw [← Array.getElem?_toList] at q
    exact ints_item hit i v q
  · exact setR_new_at hS
/-- sorted of a set of ints, however many -/
theorem sortedI {a : Addr} {S : Int → Bool} {n : Nat} {Q : Value → Shared → Prop} (R : SetR w s.heap a S n) (hh : A.handled = none)
    (hQ : ∀ s' p (out : Array Value) (c : Nat) (ns : List Int), (∀ b o, s.heap.get? b = some o → s'.heap.get? b = some o) → s'.gens = s.gens → s'.os = s.os → s.heap.objs.size ≤ p → s'.heap.get? p = some (seqObj "list" out c) → IntsAre out.toList ns → ns.Pairwise (· < ·) →
      (∀ k, k ∈ ns ↔ S k = true) → Q (.ref p) s') : wpAny (model P w) A (call (.builtin "sorted") [.ref a]) Q E s := by
  obtain ⟨o, es, ep, t, ho, hex, hd, good, nd, hm, hb, hf, hn, hr, hl⟩ := R
  refine Calls.call_function_entry kind_sorted plain_sorted entry_sorted (args_sorted1 _) ?_
  unfold Builtin.«sorted»
  refine wpAny_bind (m := checkCount "sorted" 1 1 _) (wpAny_pure (wpAny_bind (collect_set (A := A.in1) hh ⟨o, ho, hex.1, hd⟩ hf hb hr hl fun s1 vs k1 hz g1 o1 pm => ?_)))
  have len : vs.length = es.size := by rw [pm.length_eq, List.length_map, Array.length_toList]
  have hv : IntsAre vs (vs.map Builtin.Re.reRawOf) := ints_of vs fun v hv => by
    obtain ⟨e, he, rfl⟩ := List.mem_map.mp (pm.mem_iff.mp hv)
    obtain ⟨k, tk, z, _⟩ := good e he
    exact ⟨k, tk, z⟩
  have pk : (vs.map Builtin.Re.reRawOf).Perm (es.toList.map keyOf) := by
    have q := pm.map Builtin.Re.reRawOf
    rw [List.map_map] at q
    exact q
  have hs : vs.length ≤ sizeLine := by
    rw [len, sizeLine_eq]
    have : scanBound = 4096 := rfl
    omega
  refine wpAny_bind (wpAny_newList ?_ hs)
  have hL : (s1.heap.push (seqObj "list" vs.toArray 0)).get? s1.heap.objs.size = some (seqObj "list" vs.toArray 0) := Heap.get?_push_size _ rfl
  refine wpAny_bind (wpAny_holding (wpAny_call_entry PyProof.Rows.slot_list_sort ⟨_, hL, rfl⟩ PyProof.Rows.entry_list_sort (SrtO.list_sort_ord SrtO.swo_int hL hs (fun h2 => SrtO.ints_sortable hv h2) fun out srt stb => ⟨_, rfl, ?_⟩) (PyProof.Rows.args_list_sort _)))
  obtain ⟨c, hc⟩ := sortedHeap_at (vs := vs) (out := out.toArray) hL
  obtain ⟨a1, a2, a3⟩ := SrtO.ints_out hv srt stb
  have pn := a2.trans pk
  refine wpAny_pure ⟨_, rfl, hQ _ s1.heap.objs.size out.toArray c _ (fun b u e => ?_) g1 o1 hz hc a1 (lt_of_le_nodup _ a3 (pn.nodup_iff.mpr nd)) fun k => by rw [pn.mem_iff, ← hm k]⟩
  have q := k1 b u e
  have lt := Heap.lt_size q
  show (sortedHeap (s1.heap.push (seqObj "list" vs.toArray 0)) s1.heap.objs.size vs out.toArray).get? b = some u
  rw [sortedHeap_old (Nat.ne_of_lt lt) (by rw [size_push']; exact Nat.lt_succ_of_lt lt)]
  exact Heap.get?_push_of_some _ q
end
end TG
namespace DL
open PySem PySem.Spec PySem.Calls PyProof.Rows L2 RZ
section
variable {G : Gd} {E : XK} {X : Cx} {a e : Expr} {f g : DE → R D} {pos : Pos}
/-! ### len(set(list of tuples)) -/
def tLenSetR (K : PySem.W.Frag) (ta : TE) : TE := fun σ H Q => ta σ H fun x H1 => ∃ (l : Addr) (ks : List (Addr × List Int)), x = V.ref l ∧ Rd H1 l (.lst (ks.map fun p => V.ref p.1)) ∧ (∀ p ∈ ks, SqT K H1 p.1 (p.2.map V.int)) ∧ ks.length < 4800 ∧ Q (.int ((TG.uniq (ks.map fun p => p.2)).length : Nat)) H1
theorem pe_lenSetR {ta : TE} {p p2 q : Pos} (hu : X.A.units + 66 < cLine) (hg : Gl X "len") (hm : X.mg "len" = none) (hg2 : Gl X "set") (hm2 : X.mg "set" = none) (ha : PE X a ta) (hc : X.calm = true)
    (na : starEach [a] X.env = (false, eval a X.env) :: starEach [] X.env := by rfl) : PE X (.Call (.Name "len" p) [.Call (.Name "set" p2) [a] [] q] [] pos) (tLenSetR X.K ta) := ⟨fun pins s σ H Q I h => by
  refine Call_ (ld_blt I hg hm boot_len ?_)
  refine PyProof.Rows.callWith_builtin1 (PyProof.Rows.args_cons ?_ rfl) rfl rfl
  refine Call_ (ld_blt I hg2 hm2 boot_set ?_)
  refine PyProof.Rows.callWith_type1 (PyProof.Rows.args_cons (thn (ha.run pins s σ H _ I h) fun v s1 hs => PyProof.Rows.args_nil ?_) na) na rfl
  obtain ⟨x, H1, I1, r1, l, ks, rfl, hq, hk, hl, q1⟩ := hs
  cases r1
  obtain ⟨its, r, pl, hz⟩ := I1.list (.inl hq)
  have hit : its.toArray.toList = ks.map fun p => Value.ref p.1 := by simpa using refs_of_vals r
  refine TG.call_setG (fun h' => ∃ L es ep t, TG.SetG X.prog X.w h' s1.heap.objs.size L es ep t ∧ L2.Got ks ks.length L) (I1.ok.hd hc) pl.isList (fun A' hA _ => TG.loops_tups ks hit (fun p hp => I1.isT (hk p hp)) hl (by show A'.units + 1 < cLine; omega)) fun h' tk hP hkeep => PyProof.Rows.args_nil ?_
  obtain ⟨L, es, ep, t, R, g⟩ := hP
  obtain ⟨o, ho, hex, hd⟩ := R.at_
  have I2 : Inv X pins σ H1 { s1 with heap := h', toks := tk } := I1.kept fun b o e => hkeep b o (Heap.lt_size e) e
  have en : es.size = (TG.uniq (ks.map fun p => p.2)).length := by
    have z := TG.SetG.n (s := { s1 with heap := h', toks := tk }) R
    rw [z, ← List.length_map (as := L) (f := fun p => p.2)]
    refine TG.same_len R.un (TG.uniq_nodup _) fun x => ?_
    rw [TG.uniq_mem]
    constructor
    · intro hx
      obtain ⟨p, hp, rfl⟩ := List.mem_map.mp hx
      exact List.mem_map.mpr ⟨p, List.mem_of_mem_take (g.sub p hp), rfl⟩
    · intro hx
      obtain ⟨p, hp, rfl⟩ := List.mem_map.mp hx
      exact g.all p (by rw [List.take_length]; exact hp)
  have le := TG.uniq_le (ks.map fun p => p.2)
  rw [List.length_map] at le
  exact call_len_set ho hex hd (TG.SetG.fit (s := { s1 with heap := h', toks := tk }) R) (by rw [en]; omega) ⟨.int ((TG.uniq (ks.map fun p => p.2)).length : Nat), H1, I2.tok _, ⟨_, by rw [en] <;> rfl⟩, q1⟩⟩
/-- tuples of ints -/
def rowOf : D → Option (List Int)
  | .tuple ds => intsOf ds
  | _ => none
def rowsOf : List D → Option (List (List Int))
  | [] => some []
  | d :: l => match rowOf d, rowsOf l with
    | some ns, some r => some (ns :: r)
    | _, _ => none
theorem row_rp {K : PySem.W.Frag} {H : Hp} {v : V} {d : D} {ns : List Int} (h : Rp K H v d) (e : rowOf d = some ns) : ∃ t, v = .ref t ∧ SqT K H t (ns.map V.int) := by
  cases h with
  | tup a b =>
    have e : intsOf _ = some ns := e
    rw [ints_rp b e] at a
    exact ⟨_, rfl, a⟩
  | _ => cases e
theorem rows_rp {K : PySem.W.Frag} {H : Hp} : ∀ {ds : List D} {vs : List V} {rows : List (List Int)}, RpAll K H vs ds → rowsOf ds = some rows → ∃ ks : List (Addr × List Int), vs = ks.map (fun p => V.ref p.1) ∧ (∀ p ∈ ks, SqT K H p.1 (p.2.map V.int)) ∧ ks.map (fun p => p.2) = rows
  | [], _, rows, h, e => by
    cases h
    cases e
    exact ⟨[], rfl, (fun _ z => nomatch z), rfl⟩
  | d :: ds, _, rows, h, e => by
    cases h with
    | cons h1 h2 =>
      unfold rowsOf at e
      cases e1 : rowOf d with
      | none => rw [e1] at e; cases e
      | some ns =>
        cases e2 : rowsOf ds with
        | none => rw [e1, e2] at e; cases e
        | some r =>
          rw [e1, e2] at e
          cases e
          obtain ⟨t, rfl, st⟩ := row_rp h1 e1
          obtain ⟨ks, rfl, hk, hm⟩ := rows_rp h2 e2
          exact ⟨(t, ns) :: ks, rfl, fun p hp => by
            rcases List.mem_cons.mp hp with rfl | hp
            · exact st
            · exact hk p hp, by rw [List.map_cons, hm]⟩
def dLenSetR : D → R D
  | .list ds => (match rowsOf ds with
    | some rows => if rows.length < 4800 then .ok (.int ((TG.uniq rows).length : Nat)) else .bad
    | none => .bad)
  | _ => .bad
theorem pd_lenSetR {p p2 q : Pos} (hu : X.A.units + 66 < cLine) (hg : Gl X "len") (hm : X.mg "len" = none) (hg2 : Gl X "set") (hm2 : X.mg "set" = none) (ha : PD G E X a f) (hc : X.calm = true)
    (na : starEach [a] X.env = (false, eval a X.env) :: starEach [] X.env := by rfl) : PD G E X (.Call (.Name "len" p) [.Call (.Name "set" p2) [a] [] q] [] pos) (eUn dLenSetR f) := by
  refine pe_imp (pe_lenSetR hu hg hm hg2 hm2 ha hc na) ?_
  rintro σ H Q ⟨ρ, hr, ho⟩
  refine ⟨ρ, hr, (Out.bind (rel := Rp X.K) ho).mono ?_⟩
  rintro x H1 e1 - ⟨d1, hd1, _, hx, ho⟩
  cases d1 with
  | list ds =>
    have ho : Out G E (Rp X.K) H1 (match rowsOf ds with
      | some rows => if rows.length < 4800 then R.ok (PyData.int ((TG.uniq rows).length : Nat)) else .bad
      | none => .bad) Q := ho
    cases hrw : rowsOf ds with
    | none => rw [hrw] at ho; exact ho.elim
    | some rows =>
      rw [hrw] at ho
      have ho : Out G E (Rp X.K) H1 (if rows.length < 4800 then R.ok (PyData.int ((TG.uniq rows).length : Nat)) else .bad) Q := ho
      by_cases hz : rows.length < 4800
      · rw [if_pos hz] at ho
        cases hx with
        | lst a b =>
          obtain ⟨ks, rfl, hk, rfl⟩ := rows_rp b hrw
          exact ⟨_, ks, rfl, a, hk, by rw [List.length_map] at hz; exact hz, ho _ H1 (Ex.refl H1) (.int _)⟩
      · rw [if_neg hz] at ho
        exact ho.elim
  | _ => exact ho.elim
/-! ### sorted(set(list of ints)) -/
def tSortSet (ta : TE) : TE := fun σ H Q => ta σ H fun x H1 => ∃ (l : Addr) (ns : List Int), x = V.ref l ∧ Rd H1 l (.lst (ns.map V.int)) ∧ ns.length ≤ 4000 ∧ ∀ p, H1 p = none → Q (.ref p) (upd H1 p (.lst ((TG.upI ns).map V.int)))
theorem pe_sortSet {ta : TE} {p p2 q : Pos} (hg : Gl X "sorted") (hm : X.mg "sorted" = none) (hg2 : Gl X "set") (hm2 : X.mg "set" = none) (ha : PE X a ta) (hc : X.calm = true)
    (na : starEach [a] X.env = (false, eval a X.env) :: starEach [] X.env := by rfl) : PE X (.Call (.Name "sorted" p) [.Call (.Name "set" p2) [a] [] q] [] pos) (tSortSet ta) := ⟨fun pins s σ H Q I h => by
  refine Call_ (ld_blt I hg hm boot_sorted ?_)
  refine PyProof.Rows.callWith_builtin1 (PyProof.Rows.args_cons ?_ rfl) rfl rfl
  refine Call_ (ld_blt I hg2 hm2 boot_set ?_)
  refine PyProof.Rows.callWith_type1 (PyProof.Rows.args_cons (thn (ha.run pins s σ H _ I h) fun v s1 hs => PyProof.Rows.args_nil ?_) na) na rfl
  obtain ⟨x, H1, I1, r1, l, ns, rfl, hq, hl, q1⟩ := hs
  cases r1
  obtain ⟨its, r, pl, hz⟩ := I1.list (.inl hq)
  refine TG.call_setG (fun h' => ∃ c, c ≤ ns.length ∧ SetR X.w h' s1.heap.objs.size (fun j => decide (j ∈ ns)) c) (I1.ok.hd hc) pl.isList (fun A' hA _ => TG.loops_ints ns (show IntsAre its.toArray.toList ns by simpa using RZ.intsAre_vals r) (by unfold scanBound; omega)) fun h' tk hP hkeep => PyProof.Rows.args_nil ?_
  obtain ⟨c, hc2, R⟩ := hP
  have I2 : Inv X pins σ H1 { s1 with heap := h', toks := tk } := I1.kept fun b o e => hkeep b o (Heap.lt_size e) e
  refine TG.sortedI (s := { s1 with heap := h', toks := tk }) R (I1.ok.hd hc) fun s' p out c ms k g o hp hgt hi hs hmem => ?_
  have em : ms = TG.upI ns := TG.srt_eq hs (TG.upI_srt ns) fun z => by rw [hmem z, decide_eq_true_eq, TG.upI_mem]
  subst em
  have len : (TG.upI ns).length ≤ ns.length := by
    unfold TG.upI
    rw [List.length_mergeSort]
    exact TG.uniq_le ns
  have hlen : ((TG.upI ns).map V.int).length ≤ sizeLine := by rw [List.length_map, sizeLine_eq]; omega
  have hn : H1 p = none := I2.hok.fresh hp
  have k2 : ∀ b u, s1.heap.get? b = some u → s'.heap.get? b = some u := fun b u e => k b u (hkeep b u (Heap.lt_size e) e)
  have hp2 : s1.heap.objs.size ≤ p := Nat.le_trans (Nat.le_of_lt R.lt) hp
  have J : Inv X pins σ (upd H1 p (.lst ((TG.upI ns).map V.int))) { s1 with heap := s'.heap, gens := s'.gens, drawn := s'.drawn, toks := s'.toks } :=
    I1.call (ch := []) (Un.laid k2 hp2 hn) (I1.hok.laid k2 hp2 ⟨hlen, out.toList, c, vals_of_ints hi, hgt⟩) (by rw [g]; exact I1.bare) (fun _ z => nomatch z)
  have e : s' = { s1 with heap := s'.heap, gens := s'.gens, drawn := s'.drawn, toks := s'.toks } := by
    cases s'
    cases s1
    cases o
    rfl
  rw [e]
  exact ⟨.ref p, _, J, rfl, q1 p hn⟩⟩
theorem rp_ints {K : PySem.W.Frag} {H : Hp} : ∀ ns : List Int, RpAll K H (ns.map V.int) (ns.map PyData.int)
  | [] => .nil
  | n :: ns => .cons (.int n) (rp_ints ns)
def dSortSet : D → R D
  | .list ds => (match intsOf ds with
    | some ns => if ns.length ≤ 4000 then .ok (.list ((TG.upI ns).map PyData.int)) else .bad
    | none => .bad)
  | _ => .bad
theorem pd_sortSet {p p2 q : Pos} (hg : Gl X "sorted") (hm : X.mg "sorted" = none) (hg2 : Gl X "set") (hm2 : X.mg "set" = none) (ha : PD G E X a f) (hc : X.calm = true)
    (na : starEach [a] X.env = (false, eval a X.env) :: starEach [] X.env := by rfl) : PD G E X (.Call (.Name "sorted" p) [.Call (.Name "set" p2) [a] [] q] [] pos) (eUn dSortSet f) := by
  refine pe_imp (pe_sortSet hg hm hg2 hm2 ha hc na) ?_
  rintro σ H Q ⟨ρ, hr, ho⟩
  refine ⟨ρ, hr, (Out.bind (rel := Rp X.K) ho).mono ?_⟩
  rintro x H1 e1 - ⟨d1, hd1, _, hx, ho⟩
  cases d1 with
  | list ds =>
    have ho : Out G E (Rp X.K) H1 (match intsOf ds with
      | some ns => if ns.length ≤ 4000 then R.ok (PyData.list ((TG.upI ns).map PyData.int)) else .bad
      | none => .bad) Q := ho
    cases hi : intsOf ds with
    | none => rw [hi] at ho; exact ho.elim
    | some ns =>
      rw [hi] at ho
      have ho : Out G E (Rp X.K) H1 (if ns.length ≤ 4000 then R.ok (PyData.list ((TG.upI ns).map PyData.int)) else .bad) Q := ho
      by_cases hz : ns.length ≤ 4000
      · rw [if_pos hz] at ho
        cases hx with
        | lst a b =>
          rw [ints_rp b hi] at a
          exact ⟨_, ns, rfl, a, hz, fun p hp => ho _ _ (Ex.new hp) (.lst (.inl upd_same) (rp_ints _))⟩
      · rw [if_neg hz] at ho
        exact ho.elim
  | _ => exact ho.elim
end
end DL
set_option Elab.async false
set_option linter.all false
set_option maxRecDepth 100000
set_option maxHeartbeats 4000000
namespace DL.K30
open PySem PySem.Spec PyProof.Rows L2 RZ DL

abbrev top (i : Nat) : Stmt := PySem.Challenge.pw_billrules_k30_whole_fits.main.body.getD i (.Pass ⟨0, 0, 0, 0⟩)
def c_MOST_MANY : D := (.int 20)
def c_COST : D := (.tuple [(.int 0), (.int 9)])
def c_COUNT : D := (.tuple [(.int 1), (.int 5)])
def c_KINDS : D := (.tuple [(.str "flat"), (.str "each"), (.str "base"), (.str "from"), (.str "packs"), (.str "gift"), (.str "least"), (.str "most"), (.str "off")])
def c_MOST_BILLS : D := (.int 8)
def c_MOST_COST : D := (.int 999)
def t_BOUNDS : List (Str × D) := [("flat", (.tuple [(.tuple [(.int 0), (.int 9)])])), ("each", (.tuple [(.tuple [(.int 0), (.int 9)])])), ("base", (.tuple [(.tuple [(.int 0), (.int 9)]), (.tuple [(.int 0), (.int 9)])])), ("from", (.tuple [(.tuple [(.int 0), (.int 9)]), (.tuple [(.int 1), (.int 5)]), (.tuple [(.int 0), (.int 9)])])), ("packs", (.tuple [(.tuple [(.int 0), (.int 9)]), (.tuple [(.int 1), (.int 5)])])), ("gift", (.tuple [(.tuple [(.int 0), (.int 9)]), (.tuple [(.int 1), (.int 5)])])), ("least", (.tuple [(.tuple [(.int 0), (.int 9)]), (.tuple [(.int 0), (.int 9)])])), ("most", (.tuple [(.tuple [(.int 0), (.int 9)]), (.tuple [(.int 0), (.int 9)])])), ("off", (.tuple [(.tuple [(.int 0), (.int 9)]), (.tuple [(.int 1), (.int 5)]), (.tuple [(.int 0), (.int 9)])]))]
def lamD : List Str := ["law"]
def wd : Exn → Str
  | .badRule => "BadRule"
  | .badBill => "BadBill"
  | .noRule => "NoRule"
  | .badText => "BadText"
  | .badGood => "other"
  | .tooFew => "other"
  | .noReceipt => "other"
  | .nothing => "other"
def gd (K : PySem.W.Frag) : Gd := ⟨lamD.map (tabL K), fun e => match e with
  | .badRule => He.ga K "BadRule"
  | .badBill => He.ga K "BadBill"
  | .noRule => He.ga K "NoRule"
  | .badText => He.ga K "BadText"
  | .badGood => He.ga K "BillError"
  | .tooFew => He.ga K "BillError"
  | .noReceipt => He.ga K "BillError"
  | .nothing => He.ga K "BillError"⟩
def prL : List Exn := [.badRule, .badBill, .noRule, .badText]
theorem lam_mem {K : PySem.W.Frag} (x : Str) (h : x ∈ lamD) : tabL K x ∈ (gd K).T := List.mem_map.mpr ⟨x, h, rfl⟩
structure Fc (K : PySem.W.Frag) (w : World) (mg : Str → Option Value) : Prop where
  m_isinstance : mg "isinstance" = none
  m_int : mg "int" = none
  m_bool : mg "bool" = none
  m_str : mg "str" = none
  m_tuple : mg "tuple" = none
  m_len : mg "len" = none
  m_all : mg "all" = none
  m_zip : mg "zip" = none
  m_min : mg "min" = none
  m_max : mg "max" = none
  m_range : mg "range" = none
  m_list : mg "list" = none
  m_set : mg "set" = none
  m_sorted : mg "sorted" = none
  m_sum : mg "sum" = none
  m_ValueError : mg "ValueError" = none
  m_enumerate : mg "enumerate" = none
  c_MOST_MANY : ConF K mg "MOST_MANY" c_MOST_MANY
  c_COST : ConF K mg "COST" c_COST
  c_COUNT : ConF K mg "COUNT" c_COUNT
  c_KINDS : ConF K mg "KINDS" c_KINDS
  c_MOST_BILLS : ConF K mg "MOST_BILLS" c_MOST_BILLS
  c_MOST_COST : ConF K mg "MOST_COST" c_MOST_COST
  t_BOUNDS : TabF K w mg "BOUNDS" t_BOUNDS
  e_BadRule : ExcF K mg "BadRule" ((gd K).cl .badRule)
  e_BadBill : ExcF K mg "BadBill" ((gd K).cl .badBill)
  e_NoRule : ExcF K mg "NoRule" ((gd K).cl .noRule)
  e_BadText : ExcF K mg "BadText" ((gd K).cl .badText)
  wf : WordF K mg (gd K) prL
  gB : mg "BillError" = some (.ref (He.ga K "BillError"))
  ex : ∀ c, PySem.W.exmOne K (.ref ((gd K).cl c)) (.ref (He.ga K "BillError")) = some true
  ndT : ((gd K).T.map fun p => p.1).Nodup
section
variable {P : Program} {w : World} {K : PySem.W.Frag} {mg : Str → Option Value} {base : Heap}
def N__law_drawn : List Str := ["_law_cell_here", "_law_k", "_law_more"]
def b__law_drawn : SB := (sSeq (sAsg 2 [] (eOp dMod (eOp dAdd (eOp dMul (eVar 0) (eC (.int 6364136223846793005))) (eOp dMul (eOp dAdd (eVar 1) (eC (.int 1))) (eC (.int 1442695040888963407)))) (eC (.int 340282366920938463463374607431768211507))))
  (sSeq (sAsg 2 [] (eOp dMod (eOp dMul (eVar 2) (eVar 2)) (eC (.int 340282366920938463463374607431768211297))))
  (sSeq (sAsg 2 [] (eOp dMul (eOp dMul (eOp dAdd (eOp dMod (eVar 2) (eC (.int 18446744073709551557))) (eC (.int 1))) (eOp dAdd (eOp dFdiv (eVar 2) (eC (.int 18446744073709551557))) (eC (.int 1)))) (eVar 2)))
  (sRet [] (eOp dMod (eVar 2) (eC (.int 340282366920938463463374607431768211507)))))))
def F__law_drawn : List D → R D := runD 3 b__law_drawn
theorem S__law_drawn : FnScope N__law_drawn ["_law_cell_here", "_law_k"] (defScope (top 35)) := ⟨rfl, rfl, rfl, by decide +kernel, rfl, by decide +kernel, by decide +kernel⟩
theorem ok__law_drawn {f : Addr} {fd : FuncData} (Fx : Fc K w mg) (Df : DefF K mg "_law_drawn" (top 35) f fd) : OkF P w K mg base (gd K) "_law_drawn" 1 2 ["_law_cell_here", "_law_k"] f fd F__law_drawn :=
  okF Df S__law_drawn rfl (by decide) rfl (fun _ _ _ _ _ _ us hl => match us, hl with | [_, _], _ => rfl) fun cdv A outer s H E hr => (pssd_cons (psd_asg [] S__law_drawn.nd rfl (Or.inl rfl) (pd_mod (pd_add (pd_mul (pd_var 0) pd_int) (pd_mul (pd_add (pd_var 1) pd_int) pd_int)) pd_int))
  (pssd_cons (psd_asg [] S__law_drawn.nd rfl (Or.inl rfl) (pd_mod (pd_mul (pd_var 2) (pd_var 2)) pd_int))
  (pssd_cons (psd_asg [] S__law_drawn.nd rfl (Or.inl rfl) (pd_mul (pd_mul (pd_add (pd_mod (pd_var 2) pd_int) pd_int) (pd_add (pd_fdiv (pd_var 2) pd_int) pd_int)) (pd_var 2)))
  (pssd_one (psd_ret [] (pd_mod (pd_var 2) pd_int))))))
def N__law_kinds : List Str := []
def b__law_kinds : SB := (sRet [] (eLst (aCons (eC (.str "flat")) (aCons (eC (.str "each")) (aCons (eC (.str "base")) (aCons (eC (.str "from")) (aCons (eC (.str "packs")) (aCons (eC (.str "gift")) (aCons (eC (.str "least")) (aCons (eC (.str "most")) (aCons (eC (.str "off")) aNil)))))))))))
def F__law_kinds : List D → R D := runD 0 b__law_kinds
theorem S__law_kinds : FnScope N__law_kinds [] (defScope (top 39)) := ⟨rfl, rfl, rfl, by decide +kernel, rfl, by decide +kernel, by decide +kernel⟩
theorem ok__law_kinds {f : Addr} {fd : FuncData} (Fx : Fc K w mg) (Df : DefF K mg "_law_kinds" (top 39) f fd) : OkF P w K mg base (gd K) "_law_kinds" 1 0 [] f fd F__law_kinds :=
  okF Df S__law_kinds rfl (by decide) rfl (fun _ _ _ _ _ _ us hl => match us, hl with | [], _ => rfl) fun cdv A outer s H E hr => (pssd_one (psd_ret [] (pd_lst (pda_cons pd_str (pda_cons pd_str (pda_cons pd_str (pda_cons pd_str (pda_cons pd_str (pda_cons pd_str (pda_cons pd_str (pda_cons pd_str (pda_cons pd_str pda_nil))))))))) (aLen_cons (aLen_cons (aLen_cons (aLen_cons (aLen_cons (aLen_cons (aLen_cons (aLen_cons (aLen_cons aLen_nil))))))))))))
def N__law_some : List Str := ["_law_more", "_law_kinds_here", "_law_j", "_law_kind"]
def t__law_some_1 : DE → R Bool := (tBl (eOp dEq (eOp dMod (eCall F__law_drawn (aCons (eVar 0) (aCons (eVar 2) aNil))) (eC (.int 3))) (eC (.int 0))))
def t__law_some_2 : DE → R Bool := (tBl (eOp (dIn true) (eVar 3) (eTup (aCons (eC (.str "from")) (aCons (eC (.str "off")) aNil)))))
def b__law_some : SB := (sSeq (sLc 1 [] (eComp [2, 3] (iEn (aCons (eCall F__law_kinds aNil) aNil)) (.pr (.nm 2) (.nm 3)) t__law_some_1 (eVar 3)))
  (sSeq (sIf [] (tBl (eOp (dOrd pGt) (eOp dMod (eVar 0) (eC (.int 5))) (eC (.int 0)))) (sLc 1 [] (eComp [3] (iAny (eVar 1)) (.nm 3) t__law_some_2 (eVar 3)))
  sNext)
  (sRet [] (eIf (tBl (eOp dNe (eVar 1) (eLst aNil))) (eUn dRev (eVar 1)) (eLst (aCons (eOp dIx (eCall F__law_kinds aNil) (eOp dMod (eOp dFdiv (eVar 0) (eC (.int 8))) (eC (.int 9)))) aNil))))))
def F__law_some : List D → R D := runD 4 b__law_some
theorem S__law_some : FnScope N__law_some ["_law_more"] (defScope (top 43)) := ⟨rfl, rfl, rfl, by decide +kernel, rfl, by decide +kernel, by decide +kernel⟩
theorem ok__law_some {f : Addr} {fd : FuncData} (Fx : Fc K w mg) (Df : DefF K mg "_law_some" (top 43) f fd) {f__law_kinds : Addr} {fd__law_kinds : FuncData} (o__law_kinds : OkF P w K mg base (gd K) "_law_kinds" 1 0 [] f__law_kinds fd__law_kinds F__law_kinds) {f__law_drawn : Addr} {fd__law_drawn : FuncData} (o__law_drawn : OkF P w K mg base (gd K) "_law_drawn" 1 2 ["_law_cell_here", "_law_k"] f__law_drawn fd__law_drawn F__law_drawn) : OkF P w K mg base (gd K) "_law_some" 2 1 ["_law_more"] f fd F__law_some :=
  okF Df S__law_some rfl (by decide) rfl (fun _ _ _ _ _ _ us hl => match us, hl with | [_], _ => rfl) fun cdv A outer s H E hr => (pssd_cons (psd_setLc (own := [("_law_j", 2), ("_law_kind", 3)]) [] rfl S__law_some.nd rfl rfl (sw_true rfl rfl rfl (by first | decide +kernel | rfl)) (pdi_enum rfl Fx.m_enumerate (pda_cons (pd_callF0 o__law_kinds hr (by decide) (L2N.passes_call (L2N.takes_of rfl rfl rfl rfl) fun _ _ _ _ h => h)) pda_nil)) (blkOk_by (own := [("_law_j", 2), ("_law_kind", 3)]) (N := N__law_some) (sc := defScope (top 43)) (by first | decide +kernel | kernel_rfl)) (by decide) (fun _ _ _ _ _ => (pgt_pr rfl (pgt_nm (i := 2) S__law_some.nd rfl (Or.inl rfl)) (pgt_nm (i := 3) S__law_some.nd rfl (Or.inl rfl)))) (fun _ _ _ _ _ => (pdts_one (pdt_c1 (op_eqD (hu4_of hr)) ok_eq (pd_mod (pd_callF o__law_drawn hr (by decide) passN (pda_cons (pd_var 0) (pda_cons (pd_var 2) pda_nil)) (aLen_cons (aLen_cons aLen_nil))) pd_int) pd_int (nomark _)))) (fun _ _ _ _ _ => (pd_var 3)))
  (pssd_cons (psd_if [] (pdt_c1 op_gtD (ok_ord _) (pd_mod (pd_var 0) pd_int) pd_int (nomark _)) (pssd_one (psd_setLc (own := [("_law_kind", 3)]) [] rfl S__law_some.nd rfl rfl (sw_true rfl rfl rfl (by first | decide +kernel | rfl)) (pdi_any (pd_var 1)) (blkOk_by (own := [("_law_kind", 3)]) (N := N__law_some) (sc := defScope (top 43)) (by first | decide +kernel | kernel_rfl)) (by decide) (fun _ _ _ _ _ => (pgt_nm (i := 3) S__law_some.nd rfl (Or.inl rfl))) (fun _ _ _ _ _ => (pdts_one (pdt_c1 (op_notInAll (hu5_of hr)) ok_notIn (pd_var 3) (pd_tup (pda_cons pd_str (pda_cons pd_str pda_nil)) (aLen_cons (aLen_cons aLen_nil))) rfl))) (fun _ _ _ _ _ => (pd_var 3))))
  pssd_nil)
  (pssd_one (psd_ret [] (pd_ite (pdt_c1 (op_neD (hu4_of hr)) ok_ne (pd_var 1) (pd_lst pda_nil aLen_nil) (nomark _)) (pd_rev (pd_var 1)) (pd_lst (pda_cons (pd_item (pd_callF0 o__law_kinds hr (by decide) (L2N.passes_call (L2N.takes_of rfl rfl rfl rfl) fun _ _ _ _ h => h)) (pd_mod (pd_fdiv (pd_var 0) pd_int) pd_int)) pda_nil) (aLen_cons aLen_nil)))))))
def N__law_bounds : List Str := ["_law_kind", "_law_cents", "_law_counts", "_law_shapes", "_law_shape", "_law_sign"]
def e__law_bounds_1 : DE → R D := (eIf (tBl (eOp dEq (eVar 5) (eC (.str "c")))) (eVar 1) (eVar 2))
def b__law_bounds : SB := (sSeq (sTgt (.pr (.nm 1) (.nm 2)) [] (eTup (aCons (eTup (aCons (eC (.int 0)) (aCons (eC (.int 9)) aNil))) (aCons (eTup (aCons (eC (.int 1)) (aCons (eC (.int 5)) aNil))) aNil))))
  (sSeq (sAsg 3 [] (eC (.dict (([("flat", "c"), ("each", "c"), ("base", "cc"), ("from", "cnc"), ("packs", "cn"), ("gift", "cn"), ("least", "cc")] : List (Str × Str)).map kvD))))
  (sSeq (sAsg 4 [] (eGet (eVar 3) (eVar 0) (eIf (tBl (eOp dEq (eVar 0) (eC (.str "most")))) (eC (.str "cc")) (eC (.str "cnc")))))
  (sRet [] (eComp [5] (iAny (eVar 4)) (.nm 5) tTrue e__law_bounds_1)))))
def F__law_bounds : List D → R D := runD 6 b__law_bounds
theorem S__law_bounds : FnScope N__law_bounds ["_law_kind"] (defScope (top 38)) := ⟨rfl, rfl, rfl, by decide +kernel, rfl, by decide +kernel, by decide +kernel⟩
theorem ok__law_bounds {f : Addr} {fd : FuncData} (Fx : Fc K w mg) (Df : DefF K mg "_law_bounds" (top 38) f fd) : OkF P w K mg base (gd K) "_law_bounds" 1 1 ["_law_kind"] f fd F__law_bounds :=
  okF Df S__law_bounds rfl (by decide) rfl (fun _ _ _ _ _ _ us hl => match us, hl with | [_], _ => rfl) fun cdv A outer s H E hr => (pssd_cons (psd_tgt [] (pd_tup (pda_cons (pd_tup (pda_cons pd_int (pda_cons pd_int pda_nil)) (aLen_cons (aLen_cons aLen_nil))) (pda_cons (pd_tup (pda_cons pd_int (pda_cons pd_int pda_nil)) (aLen_cons (aLen_cons aLen_nil))) pda_nil)) (aLen_cons (aLen_cons aLen_nil))) (pgt_pr rfl (pgt_nm (i := 1) S__law_bounds.nd rfl (by first | exact Or.inr rfl | exact Or.inl rfl)) (pgt_nm (i := 2) S__law_bounds.nd rfl (by first | exact Or.inr rfl | exact Or.inl rfl))))
  (pssd_cons (psd_asg [] S__law_bounds.nd rfl (Or.inl rfl) (pd_dict [("flat", "c"), ("each", "c"), ("base", "cc"), ("from", "cnc"), ("packs", "cn"), ("gift", "cn"), ("least", "cc")] (pps_one (pps_one (pps_one (pps_one (pps_one (pps_one (pps_one  pps_none)))))))))
  (pssd_cons (psd_asg [] S__law_bounds.nd rfl (Or.inl rfl) (pd_get (hu_of hr) (pd_var 3) (pd_var 0) (pd_ite (pdt_c1 (op_eqD (hu4_of hr)) ok_eq (pd_var 0) pd_str (nomark _)) pd_str pd_str)))
  (pssd_one (psd_ret [] (pd_lc (own := [("_law_sign", 5)]) rfl S__law_bounds.nd (pdi_any (pd_var 4)) (blkOk_by (own := [("_law_sign", 5)]) (N := N__law_bounds) (sc := defScope (top 38)) (by first | decide +kernel | kernel_rfl)) (by decide) (fun _ _ _ _ _ => (pgt_nm (i := 5) S__law_bounds.nd rfl (Or.inl rfl))) (fun _ _ _ _ _ => pdts_nil) (fun _ _ _ _ _ => (pd_ite (pdt_c1 (op_eqD (hu4_of hr)) ok_eq (pd_var 5) pd_str (nomark _)) (pd_var 1) (pd_var 2)))))))))
def N__law_rules : List Str := ["_law_kinds_here", "_law_made", "_law_kind", "_law_found", "_law_low", "_law_high", "_law_longer", "_law_rule", "_law_one"]
def e__law_rules_1 : DE → R D := (eOp dAdd (eVar 7) (eTup (aCons (eVar 8) aNil)))
def L__law_rules_2 : SB := (sExt 6 [] (eComp [8] (iRg2 (aCons (eVar 4) (aCons (eOp dAdd (eVar 5) (eC (.int 1))) aNil))) (.nm 8) tTrue e__law_rules_1))
def L__law_rules_3 : SB := (sSeq (sOwn 6 [] aNil)
  (sSeq (sFor [] (iAny (eVar 3)) (.nm 7)
  L__law_rules_2)
  (sAsg 3 [6] (eVar 6))))
def L__law_rules_4 : SB := (sSeq (sAsg 3 [] (eLst (aCons (eTup (aCons (eVar 2) aNil)) aNil)))
  (sSeq (sFor [] (iAny (eCall F__law_bounds (aCons (eVar 2) aNil))) (.pr (.nm 4) (.nm 5))
  L__law_rules_3)
  (sAsg 1 [] (eOp dAdd (eVar 1) (eVar 3)))))
def b__law_rules : SB := (sSeq (sAsg 1 [] (eLst aNil))
  (sSeq (sFor [] (iAny (eVar 0)) (.nm 2)
  L__law_rules_4)
  (sRet [] (eVar 1))))
def F__law_rules : List D → R D := runD 9 b__law_rules
theorem S__law_rules : FnScope N__law_rules ["_law_kinds_here"] (defScope (top 42)) := ⟨rfl, rfl, rfl, by decide +kernel, rfl, by decide +kernel, by decide +kernel⟩
theorem ok__law_rules {f : Addr} {fd : FuncData} (Fx : Fc K w mg) (Df : DefF K mg "_law_rules" (top 42) f fd) {f__law_bounds : Addr} {fd__law_bounds : FuncData} (o__law_bounds : OkF P w K mg base (gd K) "_law_bounds" 1 1 ["_law_kind"] f__law_bounds fd__law_bounds F__law_bounds) : OkF P w K mg base (gd K) "_law_rules" 2 1 ["_law_kinds_here"] f fd F__law_rules :=
  okF Df S__law_rules rfl (by decide) rfl (fun _ _ _ _ _ _ us hl => match us, hl with | [_], _ => rfl) fun cdv A outer s H E hr => (pssd_cons (psd_asg [] S__law_rules.nd rfl (Or.inl rfl) (pd_lst pda_nil aLen_nil))
  (pssd_cons (psd_for [] (passes_of rfl) rfl (pdi_any (pd_var 0)) (pgt_nm (i := 2) S__law_rules.nd rfl (Or.inl rfl))
  (pssd_cons (psd_asg [] S__law_rules.nd rfl (Or.inl rfl) (pd_lst (pda_cons (pd_tup (pda_cons (pd_var 2) pda_nil) (aLen_cons aLen_nil)) pda_nil) (aLen_cons aLen_nil)))
  (pssd_cons (psd_for [] (passes_of rfl) rfl (pdi_any (pd_callF o__law_bounds hr (by decide) (L2N.passes_call (L2N.takes_of rfl rfl rfl rfl) fun _ _ _ _ h => h) (pda_cons (pd_var 2) pda_nil) (aLen_cons aLen_nil))) (pgt_pr rfl (pgt_nm (i := 4) S__law_rules.nd rfl (Or.inl rfl)) (pgt_nm (i := 5) S__law_rules.nd rfl (Or.inl rfl)))
  (pssd_cons (psd_own [] S__law_rules.nd rfl (Or.inl rfl) pda_nil aLen_nil)
  (pssd_cons (psd_for [] (passes_of rfl) rfl (pdi_any (pd_var 3)) (pgt_nm (i := 7) S__law_rules.nd rfl (by first | exact Or.inr rfl | exact Or.inl rfl))
  (pssd_one (psd_ext [] (pv 6) (pd_lc (own := [("_law_one", 8)]) rfl S__law_rules.nd (pdi_range2 rfl Fx.m_range (pda_cons (pd_var 4) (pda_cons (pd_add (pd_var 5) pd_int) pda_nil))) (blkOk_by (own := [("_law_one", 8)]) (N := N__law_rules) (sc := defScope (top 42)) (by first | decide +kernel | kernel_rfl)) (by decide) (fun _ _ _ _ _ => (pgt_nm (i := 8) S__law_rules.nd rfl (Or.inl rfl))) (fun _ _ _ _ _ => pdts_nil) (fun _ _ _ _ _ => (pd_add (pd_var 7) (pd_tup (pda_cons (pd_var 8) pda_nil) (aLen_cons aLen_nil))))))))
  (pssd_one (psd_asg [6] S__law_rules.nd rfl (Or.inl rfl) (pd_var 6))))))
  (pssd_one (psd_asg [] S__law_rules.nd rfl (Or.inl rfl) (pd_add (pd_var 1) (pd_var 3)))))))
  (pssd_one (psd_ret [] (pd_var 1)))))
def N__law_cost : List Str := ["_law_rule", "_law_many", "_law_kind", "_law_found", "_law_one"]
def L__law_cost_1 : SB := (sIf [] (tBl (eOp dEq (eVar 2) (eC (.str "from")))) (sAsg 3 [] (eOp dAdd (eVar 3) (eIf (tBl (eOp (dOrd pLe) (eVar 4) (eOp dIx (eVar 0) (eC (.int 2))))) (eOp dIx (eVar 0) (eC (.int 1))) (eOp dIx (eVar 0) (eC (.int 3))))))
  (sIf [] (tBl (eOp dEq (eVar 2) (eC (.str "packs")))) (sAsg 3 [] (eOp dAdd (eVar 3) (eIf (tOrr (tBl (eOp dEq (eOp dMod (eVar 4) (eOp dIx (eVar 0) (eC (.int 2)))) (eC (.int 1)))) (tBl (eOp dEq (eOp dIx (eVar 0) (eC (.int 2))) (eC (.int 1))))) (eOp dIx (eVar 0) (eC (.int 1))) (eC (.int 0)))))
  (sIf [] (tBl (eOp dEq (eVar 2) (eC (.str "gift")))) (sAsg 3 [] (eOp dAdd (eVar 3) (eIf (tBl (eOp dEq (eOp dMod (eVar 4) (eOp dIx (eVar 0) (eC (.int 2)))) (eC (.int 0)))) (eC (.int 0)) (eOp dIx (eVar 0) (eC (.int 1))))))
  (sAsg 3 [] (eOp dAdd (eVar 3) (eIf (tBl (eOp (dIn false) (eVar 2) (eTup (aCons (eC (.str "each")) (aCons (eC (.str "off")) aNil))))) (eOp dIx (eVar 0) (eC (.int 1))) (eOp dIx (eVar 0) (eC (.int 2)))))))))
def b__law_cost : SB := (sSeq (sPar 2 3 [] (aCons (eOp dIx (eVar 0) (eC (.int 0))) (aCons (eC (.int 0)) aNil)))
  (sSeq (sIf [] (tBl (eOp dEq (eVar 2) (eC (.str "flat")))) (sRet [] (eOp dIx (eVar 0) (eC (.int 1))))
  sNext)
  (sSeq (sFor [] (iRg2 (aCons (eC (.int 1)) (aCons (eOp dAdd (eVar 1) (eC (.int 1))) aNil))) (.nm 4)
  L__law_cost_1)
  (sSeq (sIf [] (tBl (eOp dEq (eVar 2) (eC (.str "base")))) (sRet [] (eOp dAdd (eOp dIx (eVar 0) (eC (.int 1))) (eVar 3)))
  sNext)
  (sSeq (sIf [] (tBl (eOp dEq (eVar 2) (eC (.str "least")))) (sRet [] (eOp dIx (eCall bSorted (aCons (eLst (aCons (eOp dIx (eVar 0) (eC (.int 1))) (aCons (eVar 3) aNil))) aNil)) (eC (.int 1))))
  sNext)
  (sSeq (sIf [] (tBl (eOp dEq (eVar 2) (eC (.str "most")))) (sRet [] (eOp dIx (eCall bSorted (aCons (eLst (aCons (eOp dMul (eC (.int 5)) (eOp dIx (eVar 0) (eC (.int 1)))) (aCons (eVar 3) aNil))) aNil)) (eC (.int 0))))
  sNext)
  (sRet [] (eIf (tAn (tBl (eOp dEq (eVar 2) (eC (.str "off")))) (tBl (eOp (dOrd pGe) (eVar 1) (eOp dIx (eVar 0) (eC (.int 2)))))) (eOp dIx (eCall bSorted (aCons (eLst (aCons (eC (.int 0)) (aCons (eOp dSub (eVar 3) (eOp dIx (eVar 0) (eC (.int 3)))) aNil))) aNil)) (eC (.int 1))) (eVar 3)))))))))
def F__law_cost : List D → R D := runD 5 b__law_cost
theorem S__law_cost : FnScope N__law_cost ["_law_rule", "_law_many"] (defScope (top 40)) := ⟨rfl, rfl, rfl, by decide +kernel, rfl, by decide +kernel, by decide +kernel⟩
theorem ok__law_cost {f : Addr} {fd : FuncData} (Fx : Fc K w mg) (Df : DefF K mg "_law_cost" (top 40) f fd) : OkF P w K mg base (gd K) "_law_cost" 1 2 ["_law_rule", "_law_many"] f fd F__law_cost :=
  okF Df S__law_cost rfl (by decide) rfl (fun _ _ _ _ _ _ us hl => match us, hl with | [_, _], _ => rfl) fun cdv A outer s H E hr => (pssd_cons (psd_par [] rfl S__law_cost.nd rfl rfl (by decide) rfl rfl (pda_cons (pd_item (pd_var 0) pd_int) (pda_cons pd_int pda_nil)))
  (pssd_cons (psd_if [] (pdt_c1 (op_eqD (hu4_of hr)) ok_eq (pd_var 2) pd_str (nomark _)) (pssd_one (psd_ret [] (pd_item (pd_var 0) pd_int)))
  pssd_nil)
  (pssd_cons (psd_for [] (passes_of rfl) rfl (pdi_range2 rfl Fx.m_range (pda_cons pd_int (pda_cons (pd_add (pd_var 1) pd_int) pda_nil))) (pgt_nm (i := 4) S__law_cost.nd rfl (Or.inl rfl))
  (pssd_one (psd_if [] (pdt_c1 (op_eqD (hu4_of hr)) ok_eq (pd_var 2) pd_str (nomark _)) (pssd_one (psd_asg [] S__law_cost.nd rfl (Or.inl rfl) (pd_add (pd_var 3) (pd_ite (pdt_c1 op_leD (ok_ord _) (pd_var 4) (pd_item (pd_var 0) pd_int) (nomark _)) (pd_item (pd_var 0) pd_int) (pd_item (pd_var 0) pd_int)))))
  (pssd_one (psd_if [] (pdt_c1 (op_eqD (hu4_of hr)) ok_eq (pd_var 2) pd_str (nomark _)) (pssd_one (psd_asg [] S__law_cost.nd rfl (Or.inl rfl) (pd_add (pd_var 3) (pd_ite (PDW.t (pdw_or (pdt_c1 (op_eqD (hu4_of hr)) ok_eq (pd_mod (pd_var 4) (pd_item (pd_var 0) pd_int)) pd_int (nomark _)) (pdw_or1 (pdt_c1 (op_eqD (hu4_of hr)) ok_eq (pd_item (pd_var 0) pd_int) pd_int (nomark _))))) (pd_item (pd_var 0) pd_int) pd_int))))
  (pssd_one (psd_if [] (pdt_c1 (op_eqD (hu4_of hr)) ok_eq (pd_var 2) pd_str (nomark _)) (pssd_one (psd_asg [] S__law_cost.nd rfl (Or.inl rfl) (pd_add (pd_var 3) (pd_ite (pdt_c1 (op_eqD (hu4_of hr)) ok_eq (pd_mod (pd_var 4) (pd_item (pd_var 0) pd_int)) pd_int (nomark _)) pd_int (pd_item (pd_var 0) pd_int)))))
  (pssd_one (psd_asg [] S__law_cost.nd rfl (Or.inl rfl) (pd_add (pd_var 3) (pd_ite (pdt_c1 (op_inAll (hu5_of hr)) ok_in (pd_var 2) (pd_tup (pda_cons pd_str (pda_cons pd_str pda_nil)) (aLen_cons (aLen_cons aLen_nil))) rfl) (pd_item (pd_var 0) pd_int) (pd_item (pd_var 0) pd_int))))))))))))
  (pssd_cons (psd_if [] (pdt_c1 (op_eqD (hu4_of hr)) ok_eq (pd_var 2) pd_str (nomark _)) (pssd_one (psd_ret [] (pd_add (pd_item (pd_var 0) pd_int) (pd_var 3))))
  pssd_nil)
  (pssd_cons (psd_if [] (pdt_c1 (op_eqD (hu4_of hr)) ok_eq (pd_var 2) pd_str (nomark _)) (pssd_one (psd_ret [] (pd_item (pd_sorted (hu_of hr) rfl Fx.m_sorted (pda_cons (pd_lst (pda_cons (pd_item (pd_var 0) pd_int) (pda_cons (pd_var 3) pda_nil)) (aLen_cons (aLen_cons aLen_nil))) pda_nil)) pd_int)))
  pssd_nil)
  (pssd_cons (psd_if [] (pdt_c1 (op_eqD (hu4_of hr)) ok_eq (pd_var 2) pd_str (nomark _)) (pssd_one (psd_ret [] (pd_item (pd_sorted (hu_of hr) rfl Fx.m_sorted (pda_cons (pd_lst (pda_cons (pd_mul pd_int (pd_item (pd_var 0) pd_int)) (pda_cons (pd_var 3) pda_nil)) (aLen_cons (aLen_cons aLen_nil))) pda_nil)) pd_int)))
  pssd_nil)
  (pssd_one (psd_ret [] (pd_ite (PDW.t (pdw_and (pdt_c1 (op_eqD (hu4_of hr)) ok_eq (pd_var 2) pd_str (nomark _)) (pdw_and1 (pdt_c1 op_geD (ok_ord _) (pd_var 1) (pd_item (pd_var 0) pd_int) (nomark _))))) (pd_item (pd_sorted (hu_of hr) rfl Fx.m_sorted (pda_cons (pd_lst (pda_cons pd_int (pda_cons (pd_sub (pd_var 3) (pd_item (pd_var 0) pd_int)) pda_nil)) (aLen_cons (aLen_cons aLen_nil))) pda_nil)) pd_int) (pd_var 3))))))))))
def N__law_bills : List Str := ["_law_more", "_law_kinds_here", "_law_rules_here", "_law_rule", "_law_found", "_law_j", "_law_here", "_law_many", "_law_cost_here"]
def L__law_bills_1 : SB := (sSeq (sAsg 6 [] (eCall F__law_drawn (aCons (eVar 0) (aCons (eVar 5) aNil))))
  (sSeq (sAsg 7 [] (eOp dMod (eVar 6) (eC (.int 21))))
  (sSeq (sAsg 8 [] (eOp dAdd (eCall F__law_cost (aCons (eVar 3) (aCons (eVar 7) aNil))) (eOp dIx (eLst (aCons (eC (.int 0)) (aCons (eC (.int 0)) (aCons (eC (.int 0)) (aCons (eC (.int 1)) (aCons (eC (.int 7)) (aCons (eC (.int 300)) aNil))))))) (eOp dMod (eOp dFdiv (eVar 6) (eC (.int 64))) (eOp dIx (eLst (aCons (eC (.int 3)) (aCons (eC (.int 4)) (aCons (eC (.int 6)) aNil)))) (eOp dMod (eOp dFdiv (eVar 0) (eC (.int 64))) (eC (.int 3))))))))
  (sApp 4 [] (eTup (aCons (eVar 7) (aCons (eVar 8) aNil)))))))
def b__law_bills : SB := (sSeq (sAsg 2 [] (eCall F__law_rules (aCons (eVar 1) aNil)))
  (sSeq (sParO 3 4 [] (eOp dIx (eVar 2) (eOp dMod (eCall F__law_drawn (aCons (eVar 0) (aCons (eC (.int 50)) aNil))) (eCall bLen (aCons (eVar 2) aNil)))))
  (sSeq (sFor [] (iRg1 (aCons (eOp dMod (eVar 0) (eOp dIx (eLst (aCons (eC (.int 4)) (aCons (eC (.int 9)) aNil))) (eOp dMod (eOp dFdiv (eVar 0) (eC (.int 16))) (eC (.int 2))))) aNil)) (.nm 5)
  L__law_bills_1)
  (sRet [4] (eVar 4)))))
def F__law_bills : List D → R D := runD 9 b__law_bills
theorem S__law_bills : FnScope N__law_bills ["_law_more", "_law_kinds_here"] (defScope (top 44)) := ⟨rfl, rfl, rfl, by decide +kernel, rfl, by decide +kernel, by decide +kernel⟩
theorem ok__law_bills {f : Addr} {fd : FuncData} (Fx : Fc K w mg) (Df : DefF K mg "_law_bills" (top 44) f fd) {f__law_rules : Addr} {fd__law_rules : FuncData} (o__law_rules : OkF P w K mg base (gd K) "_law_rules" 2 1 ["_law_kinds_here"] f__law_rules fd__law_rules F__law_rules) {f__law_drawn : Addr} {fd__law_drawn : FuncData} (o__law_drawn : OkF P w K mg base (gd K) "_law_drawn" 1 2 ["_law_cell_here", "_law_k"] f__law_drawn fd__law_drawn F__law_drawn) {f__law_cost : Addr} {fd__law_cost : FuncData} (o__law_cost : OkF P w K mg base (gd K) "_law_cost" 1 2 ["_law_rule", "_law_many"] f__law_cost fd__law_cost F__law_cost) : OkF P w K mg base (gd K) "_law_bills" 3 2 ["_law_more", "_law_kinds_here"] f fd F__law_bills :=
  okF Df S__law_bills rfl (by decide) rfl (fun _ _ _ _ _ _ us hl => match us, hl with | [_, _], _ => rfl) fun cdv A outer s H E hr => (pssd_cons (psd_asg [] S__law_bills.nd rfl (Or.inl rfl) (pd_callF o__law_rules hr (by decide) (L2N.passes_call (L2N.takes_of rfl rfl rfl rfl) fun _ _ _ _ h => h) (pda_cons (pd_var 1) pda_nil) (aLen_cons aLen_nil)))
  (pssd_cons (psd_parO [] rfl S__law_bills.nd rfl rfl (by decide) rfl rfl (pd_item (pd_var 2) (pd_mod (pd_callF o__law_drawn hr (by decide) (L2N.passes_call (L2N.takes_of rfl rfl rfl rfl) fun _ _ _ _ h => h) (pda_cons (pd_var 0) (pda_cons pd_int pda_nil)) (aLen_cons (aLen_cons aLen_nil))) (pd_len rfl Fx.m_len (pda_cons (pd_var 2) pda_nil)))))
  (pssd_cons (psd_for [] (passes_of rfl) rfl (pdi_range1 rfl Fx.m_range (pda_cons (pd_mod (pd_var 0) (pd_item (pd_lst (pda_cons pd_int (pda_cons pd_int pda_nil)) (aLen_cons (aLen_cons aLen_nil))) (pd_mod (pd_fdiv (pd_var 0) pd_int) pd_int))) pda_nil)) (pgt_nm (i := 5) S__law_bills.nd rfl (Or.inl rfl))
  (pssd_cons (psd_asg [] S__law_bills.nd rfl (Or.inl rfl) (pd_callF o__law_drawn hr (by decide) (L2N.passes_call (L2N.takes_of rfl rfl rfl rfl) fun _ _ _ _ h => h) (pda_cons (pd_var 0) (pda_cons (pd_var 5) pda_nil)) (aLen_cons (aLen_cons aLen_nil))))
  (pssd_cons (psd_asg [] S__law_bills.nd rfl (Or.inl rfl) (pd_mod (pd_var 6) pd_int))
  (pssd_cons (psd_asg [] S__law_bills.nd rfl (Or.inl rfl) (pd_add (pd_callF o__law_cost hr (by decide) (L2N.passes_call (L2N.takes_of rfl rfl rfl rfl) fun _ _ _ _ h => h) (pda_cons (pd_var 3) (pda_cons (pd_var 7) pda_nil)) (aLen_cons (aLen_cons aLen_nil))) (pd_item (pd_lst (pda_cons pd_int (pda_cons pd_int (pda_cons pd_int (pda_cons pd_int (pda_cons pd_int (pda_cons pd_int pda_nil)))))) (aLen_cons (aLen_cons (aLen_cons (aLen_cons (aLen_cons (aLen_cons aLen_nil))))))) (pd_mod (pd_fdiv (pd_var 6) pd_int) (pd_item (pd_lst (pda_cons pd_int (pda_cons pd_int (pda_cons pd_int pda_nil))) (aLen_cons (aLen_cons (aLen_cons aLen_nil)))) (pd_mod (pd_fdiv (pd_var 0) pd_int) pd_int))))))
  (pssd_one (psd_app [] (pv 4) (pd_tup (pda_cons (pd_var 7) (pda_cons (pd_var 8) pda_nil)) (aLen_cons (aLen_cons aLen_nil)))))))))
  (pssd_one (psd_ret [4] (pd_var 4))))))
def N__law_word : List Str := ["_law_e", "_law_flags", "_law_flag"]
theorem S__law_word : FnScope N__law_word ["_law_e"] (defScope (top 36)) := ⟨rfl, rfl, rfl, by decide +kernel, rfl, by decide +kernel, by decide +kernel⟩
theorem ok__law_word {f : Addr} {fd : FuncData} (Fx : Fc K w mg) (Df : DefF K mg "_law_word" (top 36) f fd) : WordOk P w K mg base (gd K) 1 f wd :=
  wordOk (N := N__law_word) Df S__law_word (fun _ _ _ _ _ _ us hl => match us, hl with | [_], _ => rfl) fun c p cdv A outer s H Q hot hr hz ht hq => by
    have hp : (p.1, p.2) ∈ (L2H.cxH C8.CX0 P w K mg base N__law_word "_law_word" (defScope (top 36)) f cdv A outer s H C8.E0 p).pn := List.mem_singleton.mpr rfl
    have hf : ∃ vs, p.2.data = .fields vs := hot.2.elim fun vs h => ⟨vs, h.1⟩
    have hh : L2H.HotC (L2H.cxH C8.CX0 P w K mg base N__law_word "_law_word" (defScope (top 36)) f cdv A outer s H C8.E0 p) := ⟨p, ⟨hot.1, hot.2⟩, List.mem_singleton.mpr rfl⟩
    have hu : (L2H.cxH C8.CX0 P w K mg base N__law_word "_law_word" (defScope (top 36)) f cdv A outer s H C8.E0 p).A.units + 66 < cLine := by
      have q : (A.deeper (envOfC "_law_word" (defScope (top 36)) s.heap.objs.size f cdv)).units + 16 * 0 + 200 < cLine := hr.un
      show (A.deeper (envOfC "_law_word" (defScope (top 36)) s.heap.objs.size f cdv)).units + 66 < cLine
      omega
    exact word4 (X := (L2H.cxH C8.CX0 P w K mg base N__law_word "_law_word" (defScope (top 36)) f cdv A outer s H C8.E0 p)) (bs := [decide (c = .badBill), decide (c = .badRule), decide (c = .badText), decide (c = .noRule)]) (z := wd c) S__law_word.nd rfl rfl (pis_cons (pe_isC Fx.wf hp hz hf .badBill rfl rfl (Or.inl rfl) rfl Fx.e_BadBill.g (by decide)) (pis_cons (pe_isC Fx.wf hp hz hf .badRule rfl rfl (Or.inl rfl) rfl Fx.e_BadRule.g (by decide)) (pis_cons (pe_isC Fx.wf hp hz hf .badText rfl rfl (Or.inl rfl) rfl Fx.e_BadText.g (by decide)) (pis_cons (pe_isC Fx.wf hp hz hf .noRule rfl rfl (Or.inl rfl) rfl Fx.e_NoRule.g (by decide)) pis_nil)))) (show (4 : Nat) ≤ 100000 by decide) (pe_sumFlags hh rfl (Or.inl rfl) rfl Fx.wf.ms Fx.wf.mt rfl (by decide +kernel) (by decide +kernel) (by decide +kernel) rfl rfl) (pe_isV Fx.wf hp hz hf rfl rfl (Or.inl rfl) rfl) (pd_item (pd_lst (pda_cons pd_str (pda_cons pd_str (pda_cons pd_str (pda_cons pd_str pda_nil)))) (aLen_cons (aLen_cons (aLen_cons (aLen_cons aLen_nil))))) (pd_index hu (pd_var 1) pd_bl)) ht hq (by cases c <;> first | exact Or.inl ⟨by decide, by kernel_rfl⟩ | exact Or.inr ⟨by decide, rfl⟩)
theorem S__law_told : FnScope ["_law_deed", "_law_e"] ["_law_deed"] (defScope (top 37)) := ⟨rfl, rfl, rfl, by decide +kernel, rfl, by decide +kernel, by decide +kernel⟩
theorem told_F {g : Addr} {fdg : FuncData} {fw : Addr} {fdw : FuncData} (Fx : Fc K w mg) (Df : DefF K mg "_law_told" (top 37) g fdg) (Dw : DefF K mg "_law_word" (top 36) fw fdw) (Wo : WordOk P w K mg base (gd K) 1 fw wd) (k : Nat) (hk : 1 ≤ k) : ToldF P w K mg base (gd K) k wd "_law_told" "_law_deed" "_law_e" "BillError" "_law_word" (top 37) g (He.ga K "BillError") fw fdg :=
  ⟨Df, S__law_told, Df.d.bindsN (fun _ _ _ _ _ _ us hl => match us, hl with | [_], _ => rfl), rfl, Or.inl rfl, rfl, rfl, ⟨_, _, _, _, _, _, _, _, _, _, rfl⟩, Fx.gB, Fx.ex, Dw.g, Dw.d.kp, Wo.mono hk, ⟨by decide, by decide⟩, ⟨by decide, by decide⟩, by decide, by decide⟩
def N__law_cell : List Str := ["_law_script", "_law_k"]
def b__law_cell : SB := (sSeq (sIf [] (tBl (eOp dEq (eVar 0) (eLst aNil))) (sRet [] (eOp dMul (eVar 1) (eC (.int 7919))))
  sNext)
  (sRet [] (eOp dAdd (eOp dIx (eVar 0) (eOp dMod (eVar 1) (eCall bLen (aCons (eVar 0) aNil)))) (eOp dMul (eOp dFdiv (eVar 1) (eCall bLen (aCons (eVar 0) aNil))) (eC (.int 104729))))))
def F__law_cell : List D → R D := runD 2 b__law_cell
theorem S__law_cell : FnScope N__law_cell ["_law_script", "_law_k"] (defScope (top 34)) := ⟨rfl, rfl, rfl, by decide +kernel, rfl, by decide +kernel, by decide +kernel⟩
theorem ok__law_cell {f : Addr} {fd : FuncData} (Fx : Fc K w mg) (Df : DefF K mg "_law_cell" (top 34) f fd) : OkF P w K mg base (gd K) "_law_cell" 1 2 ["_law_script", "_law_k"] f fd F__law_cell :=
  okF Df S__law_cell rfl (by decide) rfl (fun _ _ _ _ _ _ us hl => match us, hl with | [_, _], _ => rfl) fun cdv A outer s H E hr => (pssd_cons (psd_if [] (pdt_c1 (op_eqD (hu4_of hr)) ok_eq (pd_var 0) (pd_lst pda_nil aLen_nil) (nomark _)) (pssd_one (psd_ret [] (pd_mul (pd_var 1) pd_int)))
  pssd_nil)
  (pssd_one (psd_ret [] (pd_add (pd_item (pd_var 0) (pd_mod (pd_var 1) (pd_len rfl Fx.m_len (pda_cons (pd_var 0) pda_nil)))) (pd_mul (pd_fdiv (pd_var 1) (pd_len rfl Fx.m_len (pda_cons (pd_var 0) pda_nil))) pd_int)))))
def N_need_kind : List Str := ["kind"]
def b_need_kind : SB := (sIf [] (tOrr (tNt (tBl (eUn (dIsi "str") (eVar 0)))) (tBl (eOp (dIn true) (eVar 0) (eC c_KINDS)))) (sErr .badRule)
  sNext)
def F_need_kind : List D → R D := runD 1 b_need_kind
theorem S_need_kind : FnScope N_need_kind ["kind"] (defScope (top 13)) := ⟨rfl, rfl, rfl, by decide +kernel, rfl, by decide +kernel, by decide +kernel⟩
theorem ok_need_kind {f : Addr} {fd : FuncData} (Fx : Fc K w mg) (Df : DefF K mg "need_kind" (top 13) f fd) : OkF P w K mg base (gd K) "need_kind" 1 1 ["kind"] f fd F_need_kind :=
  okF Df S_need_kind rfl (by decide) rfl (fun _ _ _ _ _ _ us hl => match us, hl with | [_], _ => rfl) fun cdv A outer s H E hr => (pssd_one (psd_if [] (PDW.t (pdw_or (pdt_not (pdt_val (pd_isi (T := "str") rfl Fx.m_isinstance rfl Fx.m_str (by decide +kernel) (pd_var 0)))) (pdw_or1 (pdt_c1 (op_notInAll (hu5_of hr)) ok_notIn (pd_var 0) (pd_con Fx.c_KINDS) rfl)))) (pssd_one (psd_raiseF Fx.e_BadRule rfl (L2N.takes_of rfl rfl rfl rfl)))
  pssd_nil))
def N_need_kinds : List Str := ["kinds", "kind"]
def L_need_kinds_1 : SB := (sExpr [] (eCall F_need_kind (aCons (eVar 1) aNil)))
def b_need_kinds : SB := (sSeq (sIf [] (tOrr (tNt (tBl (eUn (dIsi "list") (eVar 0)))) (tBl (eOp dEq (eVar 0) (eLst aNil)))) (sErr .badRule)
  sNext)
  (sSeq (sFor [] (iAny (eVar 0)) (.nm 1)
  L_need_kinds_1)
  (sIf [] (tBl (eOp dNe (eUn dLenSet (eVar 0)) (eCall bLen (aCons (eVar 0) aNil)))) (sErr .badRule)
  sNext)))
def F_need_kinds : List D → R D := runD 2 b_need_kinds
theorem S_need_kinds : FnScope N_need_kinds ["kinds"] (defScope (top 19)) := ⟨rfl, rfl, rfl, by decide +kernel, rfl, by decide +kernel, by decide +kernel⟩
theorem ok_need_kinds {f : Addr} {fd : FuncData} (Fx : Fc K w mg) (Df : DefF K mg "need_kinds" (top 19) f fd) {f_need_kind : Addr} {fd_need_kind : FuncData} (o_need_kind : OkF P w K mg base (gd K) "need_kind" 1 1 ["kind"] f_need_kind fd_need_kind F_need_kind) : OkF P w K mg base (gd K) "need_kinds" 2 1 ["kinds"] f fd F_need_kinds :=
  okF Df S_need_kinds rfl (by decide) rfl (fun _ _ _ _ _ _ us hl => match us, hl with | [_], _ => rfl) fun cdv A outer s H E hr => (pssd_cons (psd_if [] (PDW.t (pdw_or (pdt_not (pdt_val (pd_isi (T := "list") rfl Fx.m_isinstance rfl Fx.m_list (by decide +kernel) (pd_var 0)))) (pdw_or1 (pdt_c1 (op_eqD (hu4_of hr)) ok_eq (pd_var 0) (pd_lst pda_nil aLen_nil) (nomark _))))) (pssd_one (psd_raiseF Fx.e_BadRule rfl (L2N.takes_of rfl rfl rfl rfl)))
  pssd_nil)
  (pssd_cons (psd_for [] (passes_of rfl) rfl (pdi_any (pd_var 0)) (pgt_nm (i := 1) S_need_kinds.nd rfl (Or.inl rfl))
  (pssd_one (psd_expr [] (pd_callF o_need_kind hr (by decide) (L2N.passes_call (L2N.takes_of rfl rfl rfl rfl) fun _ _ _ _ h => h) (pda_cons (pd_var 1) pda_nil) (aLen_cons aLen_nil)))))
  (pssd_one (psd_if [] (pdt_c1 (op_neD (hu4_of hr)) ok_ne (pd_lenSet rfl Fx.m_len rfl Fx.m_set (pd_var 0) rfl) (pd_len rfl Fx.m_len (pda_cons (pd_var 0) pda_nil)) (nomark _)) (pssd_one (psd_raiseF Fx.e_BadRule rfl (L2N.takes_of rfl rfl rfl rfl)))
  pssd_nil))))
def N_is_count : List Str := ["thing", "low", "high"]
def b_is_count : SB := (sRet [] (vAn (eUn (dIsi "int") (eVar 0)) (vAn (vNt (eUn (dIsi "bool") (eVar 0))) (eChain pLe pLe (eVar 1) (eVar 0) (eVar 2)))))
def F_is_count : List D → R D := runD 3 b_is_count
theorem S_is_count : FnScope N_is_count ["thing", "low", "high"] (defScope (top 12)) := ⟨rfl, rfl, rfl, by decide +kernel, rfl, by decide +kernel, by decide +kernel⟩
theorem ok_is_count {f : Addr} {fd : FuncData} (Fx : Fc K w mg) (Df : DefF K mg "is_count" (top 12) f fd) : OkF P w K mg base (gd K) "is_count" 1 3 ["thing", "low", "high"] f fd F_is_count :=
  okF Df S_is_count rfl (by decide) rfl (fun _ _ _ _ _ _ us hl => match us, hl with | [_, _, _], _ => rfl) fun cdv A outer s H E hr => (pssd_one (psd_ret [] (pd_and (pd_isi (T := "int") rfl Fx.m_isinstance rfl Fx.m_int (by decide +kernel) (pd_var 0)) (pd_and (pd_not (pd_isi (T := "bool") rfl Fx.m_isinstance rfl Fx.m_bool (by decide +kernel) (pd_var 0))) (pd_one (pd_chain op_leD op_leD (pd_var 1) (pd_var 0) (pd_var 2)))))))
def N_is_bill : List Str := ["thing", "good"]
def b_is_bill : SB := (sSeq (sAsg 1 [] (vAn (eUn (dIsi "tuple") (eVar 0)) (eOp dEq (eCall bLen (aCons (eVar 0) aNil)) (eC (.int 2)))))
  (sRet [] (vAn (eVar 1) (vAn (eCall F_is_count (aCons (eOp dIx (eVar 0) (eC (.int 0))) (aCons (eC (.int 0)) (aCons (eC c_MOST_MANY) aNil)))) (eCall F_is_count (aCons (eOp dIx (eVar 0) (eC (.int 1))) (aCons (eC (.int 0)) (aCons (eC c_MOST_COST) aNil))))))))
def F_is_bill : List D → R D := runD 2 b_is_bill
theorem S_is_bill : FnScope N_is_bill ["thing"] (defScope (top 23)) := ⟨rfl, rfl, rfl, by decide +kernel, rfl, by decide +kernel, by decide +kernel⟩
theorem ok_is_bill {f : Addr} {fd : FuncData} (Fx : Fc K w mg) (Df : DefF K mg "is_bill" (top 23) f fd) {f_is_count : Addr} {fd_is_count : FuncData} (o_is_count : OkF P w K mg base (gd K) "is_count" 1 3 ["thing", "low", "high"] f_is_count fd_is_count F_is_count) : OkF P w K mg base (gd K) "is_bill" 2 1 ["thing"] f fd F_is_bill :=
  okF Df S_is_bill rfl (by decide) rfl (fun _ _ _ _ _ _ us hl => match us, hl with | [_], _ => rfl) fun cdv A outer s H E hr => (pssd_cons (psd_asg [] S_is_bill.nd rfl (Or.inl rfl) (pd_and (pd_isi (T := "tuple") rfl Fx.m_isinstance rfl Fx.m_tuple (by decide +kernel) (pd_var 0)) (pd_one (pd_eq (hu4_of hr) (pd_len rfl Fx.m_len (pda_cons (pd_var 0) pda_nil)) pd_int))))
  (pssd_one (psd_ret [] (pd_and (pd_var 1) (pd_and (pd_callF o_is_count hr (by decide) (L2N.passes_call (L2N.takes_of rfl rfl rfl rfl) fun _ _ _ _ h => h) (pda_cons (pd_item (pd_var 0) pd_int) (pda_cons pd_int (pda_cons (pd_con Fx.c_MOST_MANY) pda_nil))) (aLen_cons (aLen_cons (aLen_cons aLen_nil)))) (pd_one (pd_callF o_is_count hr (by decide) (L2N.passes_call (L2N.takes_of rfl rfl rfl rfl) fun _ _ _ _ h => h) (pda_cons (pd_item (pd_var 0) pd_int) (pda_cons pd_int (pda_cons (pd_con Fx.c_MOST_COST) pda_nil))) (aLen_cons (aLen_cons (aLen_cons aLen_nil))))))))))
def N_need_bills : List Str := ["bills", "bill"]
def e_need_bills_1 : DE → R D := (eCall F_is_bill (aCons (eVar 1) aNil))
def b_need_bills : SB := (sIf [] (tOrr (tNt (tBl (eUn (dIsi "list") (eVar 0)))) (tOrr (tBl (eOp (dOrd pGt) (eCall bLen (aCons (eVar 0) aNil)) (eC c_MOST_BILLS))) (tNt (tBl (eCall bAll (aCons (eComp [1] (iAny (eVar 0)) (.nm 1) tTrue e_need_bills_1) aNil)))))) (sErr .badBill)
  sNext)
def F_need_bills : List D → R D := runD 2 b_need_bills
theorem S_need_bills : FnScope N_need_bills ["bills"] (defScope (top 24)) := ⟨rfl, rfl, rfl, by decide +kernel, rfl, by decide +kernel, by decide +kernel⟩
theorem ok_need_bills {f : Addr} {fd : FuncData} (Fx : Fc K w mg) (Df : DefF K mg "need_bills" (top 24) f fd) {f_is_bill : Addr} {fd_is_bill : FuncData} (o_is_bill : OkF P w K mg base (gd K) "is_bill" 2 1 ["thing"] f_is_bill fd_is_bill F_is_bill) : OkF P w K mg base (gd K) "need_bills" 3 1 ["bills"] f fd F_need_bills :=
  okF Df S_need_bills rfl (by decide) rfl (fun _ _ _ _ _ _ us hl => match us, hl with | [_], _ => rfl) fun cdv A outer s H E hr => (pssd_one (psd_if [] (PDW.t (pdw_or (pdt_not (pdt_val (pd_isi (T := "list") rfl Fx.m_isinstance rfl Fx.m_list (by decide +kernel) (pd_var 0)))) (pdw_or (pdt_c1 op_gtD (ok_ord _) (pd_len rfl Fx.m_len (pda_cons (pd_var 0) pda_nil)) (pd_con Fx.c_MOST_BILLS) (nomark _)) (pdw_or1 (pdt_not (pdt_val (pd_all rfl rfl Fx.m_all (pda_cons (pd_lc (own := [("bill", 1)]) rfl S_need_bills.nd (pdi_any (pd_var 0)) (blkOk_by (own := [("bill", 1)]) (N := N_need_bills) (sc := defScope (top 24)) (by first | decide +kernel | kernel_rfl)) (by decide) (fun _ _ _ _ _ => (pgt_nm (i := 1) S_need_bills.nd rfl (Or.inl rfl))) (fun _ _ _ _ _ => pdts_nil) (fun _ _ _ _ _ => (pd_callF o_is_bill hr (by decide) passN (pda_cons (pd_var 1) pda_nil) (aLen_cons aLen_nil)))) pda_nil)))))))) (pssd_one (psd_raiseF Fx.e_BadBill rfl (L2N.takes_of rfl rfl rfl rfl)))
  pssd_nil))
def N_rules_of : List Str := ["kind", "found", "low", "high", "longer", "rule", "one"]
def e_rules_of_1 : DE → R D := (eOp dAdd (eVar 5) (eTup (aCons (eVar 6) aNil)))
def L_rules_of_2 : SB := (sExt 4 [] (eComp [6] (iRg2 (aCons (eVar 2) (aCons (eOp dAdd (eVar 3) (eC (.int 1))) aNil))) (.nm 6) tTrue e_rules_of_1))
def L_rules_of_3 : SB := (sSeq (sOwn 4 [] aNil)
  (sSeq (sFor [] (iAny (eVar 1)) (.nm 5)
  L_rules_of_2)
  (sAsg 1 [4] (eVar 4))))
def b_rules_of : SB := (sSeq (sAsg 1 [] (eLst (aCons (eTup (aCons (eVar 0) aNil)) aNil)))
  (sSeq (sFor [] (iAny (eUn (dTab t_BOUNDS) (eVar 0))) (.pr (.nm 2) (.nm 3))
  L_rules_of_3)
  (sRet [] (eVar 1))))
def F_rules_of : List D → R D := runD 7 b_rules_of
theorem S_rules_of : FnScope N_rules_of ["kind"] (defScope (top 17)) := ⟨rfl, rfl, rfl, by decide +kernel, rfl, by decide +kernel, by decide +kernel⟩
theorem ok_rules_of {f : Addr} {fd : FuncData} (Fx : Fc K w mg) (Df : DefF K mg "rules_of" (top 17) f fd) : OkF P w K mg base (gd K) "rules_of" 1 1 ["kind"] f fd F_rules_of :=
  okF Df S_rules_of rfl (by decide) rfl (fun _ _ _ _ _ _ us hl => match us, hl with | [_], _ => rfl) fun cdv A outer s H E hr => (pssd_cons (psd_asg [] S_rules_of.nd rfl (Or.inl rfl) (pd_lst (pda_cons (pd_tup (pda_cons (pd_var 0) pda_nil) (aLen_cons aLen_nil)) pda_nil) (aLen_cons aLen_nil)))
  (pssd_cons (psd_for [] (passes_of rfl) rfl (pdi_any (pd_tabF Fx.t_BOUNDS (pd_var 0))) (pgt_pr rfl (pgt_nm (i := 2) S_rules_of.nd rfl (Or.inl rfl)) (pgt_nm (i := 3) S_rules_of.nd rfl (Or.inl rfl)))
  (pssd_cons (psd_own [] S_rules_of.nd rfl (Or.inl rfl) pda_nil aLen_nil)
  (pssd_cons (psd_for [] (passes_of rfl) rfl (pdi_any (pd_var 1)) (pgt_nm (i := 5) S_rules_of.nd rfl (by first | exact Or.inr rfl | exact Or.inl rfl))
  (pssd_one (psd_ext [] (pv 4) (pd_lc (own := [("one", 6)]) rfl S_rules_of.nd (pdi_range2 rfl Fx.m_range (pda_cons (pd_var 2) (pda_cons (pd_add (pd_var 3) pd_int) pda_nil))) (blkOk_by (own := [("one", 6)]) (N := N_rules_of) (sc := defScope (top 17)) (by first | decide +kernel | kernel_rfl)) (by decide) (fun _ _ _ _ _ => (pgt_nm (i := 6) S_rules_of.nd rfl (Or.inl rfl))) (fun _ _ _ _ _ => pdts_nil) (fun _ _ _ _ _ => (pd_add (pd_var 5) (pd_tup (pda_cons (pd_var 6) pda_nil) (aLen_cons aLen_nil))))))))
  (pssd_one (psd_asg [4] S_rules_of.nd rfl (Or.inl rfl) (pd_var 4))))))
  (pssd_one (psd_ret [] (pd_var 1)))))
def N_all_rules : List Str := ["kinds", "found", "kind"]
def L_all_rules_1 : SB := (sExt 1 [] (eCall F_rules_of (aCons (eVar 2) aNil)))
def b_all_rules : SB := (sSeq (sOwn 1 [] aNil)
  (sSeq (sFor [] (iAny (eVar 0)) (.nm 2)
  L_all_rules_1)
  (sRet [1] (eVar 1))))
def F_all_rules : List D → R D := runD 3 b_all_rules
theorem S_all_rules : FnScope N_all_rules ["kinds"] (defScope (top 18)) := ⟨rfl, rfl, rfl, by decide +kernel, rfl, by decide +kernel, by decide +kernel⟩
theorem ok_all_rules {f : Addr} {fd : FuncData} (Fx : Fc K w mg) (Df : DefF K mg "all_rules" (top 18) f fd) {f_rules_of : Addr} {fd_rules_of : FuncData} (o_rules_of : OkF P w K mg base (gd K) "rules_of" 1 1 ["kind"] f_rules_of fd_rules_of F_rules_of) : OkF P w K mg base (gd K) "all_rules" 2 1 ["kinds"] f fd F_all_rules :=
  okF Df S_all_rules rfl (by decide) rfl (fun _ _ _ _ _ _ us hl => match us, hl with | [_], _ => rfl) fun cdv A outer s H E hr => (pssd_cons (psd_own [] S_all_rules.nd rfl (Or.inl rfl) pda_nil aLen_nil)
  (pssd_cons (psd_for [] (passes_of rfl) rfl (pdi_any (pd_var 0)) (pgt_nm (i := 2) S_all_rules.nd rfl (Or.inl rfl))
  (pssd_one (psd_ext [] (pv 1) (pd_callF o_rules_of hr (by decide) (L2N.passes_call (L2N.takes_of rfl rfl rfl rfl) fun _ _ _ _ h => h) (pda_cons (pd_var 2) pda_nil) (aLen_cons aLen_nil)))))
  (pssd_one (psd_ret [1] (pd_var 1)))))
def N_price : List Str := ["rule", "many", "kind", "cost"]
def b_price : SB := (sSeq (sPar 2 3 [] (aCons (eOp dIx (eVar 0) (eC (.int 0))) (aCons (eOp dIx (eVar 0) (eC (.int 1))) aNil)))
  (sSeq (sIf [] (tBl (eOp dEq (eVar 2) (eC (.str "flat")))) (sRet [] (eVar 3))
  sNext)
  (sSeq (sIf [] (tBl (eOp dEq (eVar 2) (eC (.str "each")))) (sRet [] (eOp dMul (eVar 3) (eVar 1)))
  sNext)
  (sSeq (sIf [] (tBl (eOp dEq (eVar 2) (eC (.str "base")))) (sRet [] (eOp dAdd (eVar 3) (eOp dMul (eOp dIx (eVar 0) (eC (.int 2))) (eVar 1))))
  sNext)
  (sSeq (sIf [] (tBl (eOp dEq (eVar 2) (eC (.str "from")))) (sRet [] (eOp dAdd (eOp dMul (eVar 3) (eCall bMin2 (aCons (eVar 1) (aCons (eOp dIx (eVar 0) (eC (.int 2))) aNil)))) (eOp dMul (eOp dIx (eVar 0) (eC (.int 3))) (eCall bMax2 (aCons (eC (.int 0)) (aCons (eOp dSub (eVar 1) (eOp dIx (eVar 0) (eC (.int 2)))) aNil))))))
  sNext)
  (sSeq (sIf [] (tBl (eOp dEq (eVar 2) (eC (.str "packs")))) (sRet [] (eOp dMul (eVar 3) (eOp dFdiv (eOp dSub (eOp dAdd (eVar 1) (eOp dIx (eVar 0) (eC (.int 2)))) (eC (.int 1))) (eOp dIx (eVar 0) (eC (.int 2))))))
  sNext)
  (sSeq (sIf [] (tBl (eOp dEq (eVar 2) (eC (.str "gift")))) (sRet [] (eOp dMul (eVar 3) (eOp dSub (eVar 1) (eOp dFdiv (eVar 1) (eOp dIx (eVar 0) (eC (.int 2)))))))
  sNext)
  (sSeq (sIf [] (tBl (eOp dEq (eVar 2) (eC (.str "least")))) (sRet [] (eCall bMax2 (aCons (eVar 3) (aCons (eOp dMul (eOp dIx (eVar 0) (eC (.int 2))) (eVar 1)) aNil))))
  sNext)
  (sSeq (sIf [] (tBl (eOp dEq (eVar 2) (eC (.str "most")))) (sRet [] (eCall bMin2 (aCons (eOp dMul (eVar 3) (eC (.int 5))) (aCons (eOp dMul (eOp dIx (eVar 0) (eC (.int 2))) (eVar 1)) aNil))))
  sNext)
  (sRet [] (eCall bMax2 (aCons (eC (.int 0)) (aCons (eOp dSub (eOp dMul (eVar 3) (eVar 1)) (eIf (tBl (eOp (dOrd pGe) (eVar 1) (eOp dIx (eVar 0) (eC (.int 2))))) (eOp dIx (eVar 0) (eC (.int 3))) (eC (.int 0)))) aNil)))))))))))))
def F_price : List D → R D := runD 4 b_price
theorem S_price : FnScope N_price ["rule", "many"] (defScope (top 16)) := ⟨rfl, rfl, rfl, by decide +kernel, rfl, by decide +kernel, by decide +kernel⟩
theorem ok_price {f : Addr} {fd : FuncData} (Fx : Fc K w mg) (Df : DefF K mg "price" (top 16) f fd) : OkF P w K mg base (gd K) "price" 1 2 ["rule", "many"] f fd F_price :=
  okF Df S_price rfl (by decide) rfl (fun _ _ _ _ _ _ us hl => match us, hl with | [_, _], _ => rfl) fun cdv A outer s H E hr => (pssd_cons (psd_par [] rfl S_price.nd rfl rfl (by decide) rfl rfl (pda_cons (pd_item (pd_var 0) pd_int) (pda_cons (pd_item (pd_var 0) pd_int) pda_nil)))
  (pssd_cons (psd_if [] (pdt_c1 (op_eqD (hu4_of hr)) ok_eq (pd_var 2) pd_str (nomark _)) (pssd_one (psd_ret [] (pd_var 3)))
  pssd_nil)
  (pssd_cons (psd_if [] (pdt_c1 (op_eqD (hu4_of hr)) ok_eq (pd_var 2) pd_str (nomark _)) (pssd_one (psd_ret [] (pd_mul (pd_var 3) (pd_var 1))))
  pssd_nil)
  (pssd_cons (psd_if [] (pdt_c1 (op_eqD (hu4_of hr)) ok_eq (pd_var 2) pd_str (nomark _)) (pssd_one (psd_ret [] (pd_add (pd_var 3) (pd_mul (pd_item (pd_var 0) pd_int) (pd_var 1)))))
  pssd_nil)
  (pssd_cons (psd_if [] (pdt_c1 (op_eqD (hu4_of hr)) ok_eq (pd_var 2) pd_str (nomark _)) (pssd_one (psd_ret [] (pd_add (pd_mul (pd_var 3) (pd_min2 rfl rfl Fx.m_min (pda_cons (pd_var 1) (pda_cons (pd_item (pd_var 0) pd_int) pda_nil)))) (pd_mul (pd_item (pd_var 0) pd_int) (pd_max2 rfl rfl Fx.m_max (pda_cons pd_int (pda_cons (pd_sub (pd_var 1) (pd_item (pd_var 0) pd_int)) pda_nil)))))))
  pssd_nil)
  (pssd_cons (psd_if [] (pdt_c1 (op_eqD (hu4_of hr)) ok_eq (pd_var 2) pd_str (nomark _)) (pssd_one (psd_ret [] (pd_mul (pd_var 3) (pd_fdiv (pd_sub (pd_add (pd_var 1) (pd_item (pd_var 0) pd_int)) pd_int) (pd_item (pd_var 0) pd_int)))))
  pssd_nil)
  (pssd_cons (psd_if [] (pdt_c1 (op_eqD (hu4_of hr)) ok_eq (pd_var 2) pd_str (nomark _)) (pssd_one (psd_ret [] (pd_mul (pd_var 3) (pd_sub (pd_var 1) (pd_fdiv (pd_var 1) (pd_item (pd_var 0) pd_int))))))
  pssd_nil)
  (pssd_cons (psd_if [] (pdt_c1 (op_eqD (hu4_of hr)) ok_eq (pd_var 2) pd_str (nomark _)) (pssd_one (psd_ret [] (pd_max2 rfl rfl Fx.m_max (pda_cons (pd_var 3) (pda_cons (pd_mul (pd_item (pd_var 0) pd_int) (pd_var 1)) pda_nil)))))
  pssd_nil)
  (pssd_cons (psd_if [] (pdt_c1 (op_eqD (hu4_of hr)) ok_eq (pd_var 2) pd_str (nomark _)) (pssd_one (psd_ret [] (pd_min2 rfl rfl Fx.m_min (pda_cons (pd_mul (pd_var 3) pd_int) (pda_cons (pd_mul (pd_item (pd_var 0) pd_int) (pd_var 1)) pda_nil)))))
  pssd_nil)
  (pssd_one (psd_ret [] (pd_max2 rfl rfl Fx.m_max (pda_cons pd_int (pda_cons (pd_sub (pd_mul (pd_var 3) (pd_var 1)) (pd_ite (pdt_c1 op_geD (ok_ord _) (pd_var 1) (pd_item (pd_var 0) pd_int) (nomark _)) (pd_item (pd_var 0) pd_int) pd_int)) pda_nil))))))))))))))
def N_is_fit : List Str := ["rule", "bills", "many", "cost"]
def e_is_fit_1 : DE → R D := (eOp dEq (eCall F_price (aCons (eVar 0) (aCons (eVar 2) aNil))) (eVar 3))
def b_is_fit : SB := (sRet [] (eCall bAll (aCons (eComp [2, 3] (iAny (eVar 1)) (.pr (.nm 2) (.nm 3)) tTrue e_is_fit_1) aNil)))
def F_is_fit : List D → R D := runD 4 b_is_fit
theorem S_is_fit : FnScope N_is_fit ["rule", "bills"] (defScope (top 25)) := ⟨rfl, rfl, rfl, by decide +kernel, rfl, by decide +kernel, by decide +kernel⟩
theorem ok_is_fit {f : Addr} {fd : FuncData} (Fx : Fc K w mg) (Df : DefF K mg "is_fit" (top 25) f fd) {f_price : Addr} {fd_price : FuncData} (o_price : OkF P w K mg base (gd K) "price" 1 2 ["rule", "many"] f_price fd_price F_price) : OkF P w K mg base (gd K) "is_fit" 2 2 ["rule", "bills"] f fd F_is_fit :=
  okF Df S_is_fit rfl (by decide) rfl (fun _ _ _ _ _ _ us hl => match us, hl with | [_, _], _ => rfl) fun cdv A outer s H E hr => (pssd_one (psd_ret [] (pd_all rfl rfl Fx.m_all (pda_cons (pd_lc (own := [("many", 2), ("cost", 3)]) rfl S_is_fit.nd (pdi_any (pd_var 1)) (blkOk_by (own := [("many", 2), ("cost", 3)]) (N := N_is_fit) (sc := defScope (top 25)) (by first | decide +kernel | kernel_rfl)) (by decide) (fun _ _ _ _ _ => (pgt_pr rfl (pgt_nm (i := 2) S_is_fit.nd rfl (Or.inl rfl)) (pgt_nm (i := 3) S_is_fit.nd rfl (Or.inl rfl)))) (fun _ _ _ _ _ => pdts_nil) (fun _ _ _ _ _ => (pd_eq (hu4_of hr) (pd_callF o_price hr (by decide) passN (pda_cons (pd_var 0) (pda_cons (pd_var 2) pda_nil)) (aLen_cons (aLen_cons aLen_nil))) (pd_var 3)))) pda_nil))))
def N_fitting : List Str := ["kinds", "bills", "rule"]
def t_fitting_1 : DE → R Bool := (tBl (eCall F_is_fit (aCons (eVar 2) (aCons (eVar 1) aNil))))
def b_fitting : SB := (sRet [] (eComp [2] (iAny (eCall F_all_rules (aCons (eVar 0) aNil))) (.nm 2) t_fitting_1 (eVar 2)))
def F_fitting : List D → R D := runD 3 b_fitting
theorem S_fitting : FnScope N_fitting ["kinds", "bills"] (defScope (top 27)) := ⟨rfl, rfl, rfl, by decide +kernel, rfl, by decide +kernel, by decide +kernel⟩
theorem ok_fitting {f : Addr} {fd : FuncData} (Fx : Fc K w mg) (Df : DefF K mg "fitting" (top 27) f fd) {f_all_rules : Addr} {fd_all_rules : FuncData} (o_all_rules : OkF P w K mg base (gd K) "all_rules" 2 1 ["kinds"] f_all_rules fd_all_rules F_all_rules) {f_is_fit : Addr} {fd_is_fit : FuncData} (o_is_fit : OkF P w K mg base (gd K) "is_fit" 2 2 ["rule", "bills"] f_is_fit fd_is_fit F_is_fit) : OkF P w K mg base (gd K) "fitting" 3 2 ["kinds", "bills"] f fd F_fitting :=
  okF Df S_fitting rfl (by decide) rfl (fun _ _ _ _ _ _ us hl => match us, hl with | [_, _], _ => rfl) fun cdv A outer s H E hr => (pssd_one (psd_ret [] (pd_lc (own := [("rule", 2)]) rfl S_fitting.nd (pdi_any (pd_callF o_all_rules hr (by decide) (L2N.passes_call (L2N.takes_of rfl rfl rfl rfl) fun _ _ _ _ h => h) (pda_cons (pd_var 0) pda_nil) (aLen_cons aLen_nil))) (blkOk_by (own := [("rule", 2)]) (N := N_fitting) (sc := defScope (top 27)) (by first | decide +kernel | kernel_rfl)) (by decide) (fun _ _ _ _ _ => (pgt_nm (i := 2) S_fitting.nd rfl (Or.inl rfl))) (fun _ _ _ _ _ => (pdts_one (pdt_val (pd_callF o_is_fit hr (by decide) passN (pda_cons (pd_var 2) (pda_cons (pd_var 1) pda_nil)) (aLen_cons (aLen_cons aLen_nil)))))) (fun _ _ _ _ _ => (pd_var 2)))))
def N_rules_for : List Str := ["kinds", "bills"]
def b_rules_for : SB := (sSeq (sExpr [] (eCall F_need_kinds (aCons (eVar 0) aNil)))
  (sSeq (sExpr [] (eCall F_need_bills (aCons (eVar 1) aNil)))
  (sRet [] (eCall F_fitting (aCons (eVar 0) (aCons (eVar 1) aNil))))))
def F_rules_for : List D → R D := runD 2 b_rules_for
theorem S_rules_for : FnScope N_rules_for ["kinds", "bills"] (defScope (top 28)) := ⟨rfl, rfl, rfl, by decide +kernel, rfl, by decide +kernel, by decide +kernel⟩
theorem ok_rules_for {f : Addr} {fd : FuncData} (Fx : Fc K w mg) (Df : DefF K mg "rules_for" (top 28) f fd) {f_need_kinds : Addr} {fd_need_kinds : FuncData} (o_need_kinds : OkF P w K mg base (gd K) "need_kinds" 2 1 ["kinds"] f_need_kinds fd_need_kinds F_need_kinds) {f_need_bills : Addr} {fd_need_bills : FuncData} (o_need_bills : OkF P w K mg base (gd K) "need_bills" 3 1 ["bills"] f_need_bills fd_need_bills F_need_bills) {f_fitting : Addr} {fd_fitting : FuncData} (o_fitting : OkF P w K mg base (gd K) "fitting" 3 2 ["kinds", "bills"] f_fitting fd_fitting F_fitting) : OkF P w K mg base (gd K) "rules_for" 4 2 ["kinds", "bills"] f fd F_rules_for :=
  okF Df S_rules_for rfl (by decide) rfl (fun _ _ _ _ _ _ us hl => match us, hl with | [_, _], _ => rfl) fun cdv A outer s H E hr => (pssd_cons (psd_expr [] (pd_callF o_need_kinds hr (by decide) (L2N.passes_call (L2N.takes_of rfl rfl rfl rfl) fun _ _ _ _ h => h) (pda_cons (pd_var 0) pda_nil) (aLen_cons aLen_nil)))
  (pssd_cons (psd_expr [] (pd_callF o_need_bills hr (by decide) (L2N.passes_call (L2N.takes_of rfl rfl rfl rfl) fun _ _ _ _ h => h) (pda_cons (pd_var 1) pda_nil) (aLen_cons aLen_nil)))
  (pssd_one (psd_ret [] (pd_callF o_fitting hr (by decide) (L2N.passes_call (L2N.takes_of rfl rfl rfl rfl) fun _ _ _ _ h => h) (pda_cons (pd_var 0) (pda_cons (pd_var 1) pda_nil)) (aLen_cons (aLen_cons aLen_nil)))))))
def N_kinds_for : List Str := ["kinds", "bills", "kind"]
def t_kinds_for_1 : DE → R Bool := (tBl (eOp dNe (eCall F_fitting (aCons (eLst (aCons (eVar 2) aNil)) (aCons (eVar 1) aNil))) (eLst aNil)))
def b_kinds_for : SB := (sSeq (sExpr [] (eCall F_need_kinds (aCons (eVar 0) aNil)))
  (sSeq (sExpr [] (eCall F_need_bills (aCons (eVar 1) aNil)))
  (sRet [] (eComp [2] (iAny (eVar 0)) (.nm 2) t_kinds_for_1 (eVar 2)))))
def F_kinds_for : List D → R D := runD 3 b_kinds_for
theorem S_kinds_for : FnScope N_kinds_for ["kinds", "bills"] (defScope (top 29)) := ⟨rfl, rfl, rfl, by decide +kernel, rfl, by decide +kernel, by decide +kernel⟩
theorem ok_kinds_for {f : Addr} {fd : FuncData} (Fx : Fc K w mg) (Df : DefF K mg "kinds_for" (top 29) f fd) {f_need_kinds : Addr} {fd_need_kinds : FuncData} (o_need_kinds : OkF P w K mg base (gd K) "need_kinds" 2 1 ["kinds"] f_need_kinds fd_need_kinds F_need_kinds) {f_need_bills : Addr} {fd_need_bills : FuncData} (o_need_bills : OkF P w K mg base (gd K) "need_bills" 3 1 ["bills"] f_need_bills fd_need_bills F_need_bills) {f_fitting : Addr} {fd_fitting : FuncData} (o_fitting : OkF P w K mg base (gd K) "fitting" 3 2 ["kinds", "bills"] f_fitting fd_fitting F_fitting) : OkF P w K mg base (gd K) "kinds_for" 4 2 ["kinds", "bills"] f fd F_kinds_for :=
  okF Df S_kinds_for rfl (by decide) rfl (fun _ _ _ _ _ _ us hl => match us, hl with | [_, _], _ => rfl) fun cdv A outer s H E hr => (pssd_cons (psd_expr [] (pd_callF o_need_kinds hr (by decide) (L2N.passes_call (L2N.takes_of rfl rfl rfl rfl) fun _ _ _ _ h => h) (pda_cons (pd_var 0) pda_nil) (aLen_cons aLen_nil)))
  (pssd_cons (psd_expr [] (pd_callF o_need_bills hr (by decide) (L2N.passes_call (L2N.takes_of rfl rfl rfl rfl) fun _ _ _ _ h => h) (pda_cons (pd_var 1) pda_nil) (aLen_cons aLen_nil)))
  (pssd_one (psd_ret [] (pd_lc (own := [("kind", 2)]) rfl S_kinds_for.nd (pdi_any (pd_var 0)) (blkOk_by (own := [("kind", 2)]) (N := N_kinds_for) (sc := defScope (top 29)) (by first | decide +kernel | kernel_rfl)) (by decide) (fun _ _ _ _ _ => (pgt_nm (i := 2) S_kinds_for.nd rfl (Or.inl rfl))) (fun _ _ _ _ _ => (pdts_one (pdt_c1 (op_neD (hu4_of hr)) ok_ne (pd_callF o_fitting hr (by decide) passN (pda_cons (pd_lst (pda_cons (pd_var 2) pda_nil) (aLen_cons aLen_nil)) (pda_cons (pd_var 1) pda_nil)) (aLen_cons (aLen_cons aLen_nil))) (pd_lst pda_nil aLen_nil) (nomark _)))) (fun _ _ _ _ _ => (pd_var 2)))))))
def N__law_row : List Str := ["_law_rule", "_law_many"]
def e__law_row_1 : DE → R D := (eCall F__law_cost (aCons (eVar 0) (aCons (eVar 1) aNil)))
def b__law_row : SB := (sRet [] (eComp [1] (iRg1 (aCons (eC (.int 21)) aNil)) (.nm 1) tTrue e__law_row_1))
def F__law_row : List D → R D := runD 2 b__law_row
theorem S__law_row : FnScope N__law_row ["_law_rule"] (defScope (top 41)) := ⟨rfl, rfl, rfl, by decide +kernel, rfl, by decide +kernel, by decide +kernel⟩
theorem ok__law_row {f : Addr} {fd : FuncData} (Fx : Fc K w mg) (Df : DefF K mg "_law_row" (top 41) f fd) {f__law_cost : Addr} {fd__law_cost : FuncData} (o__law_cost : OkF P w K mg base (gd K) "_law_cost" 1 2 ["_law_rule", "_law_many"] f__law_cost fd__law_cost F__law_cost) : OkF P w K mg base (gd K) "_law_row" 2 1 ["_law_rule"] f fd F__law_row :=
  okF Df S__law_row rfl (by decide) rfl (fun _ _ _ _ _ _ us hl => match us, hl with | [_], _ => rfl) fun cdv A outer s H E hr => (pssd_one (psd_ret [] (pd_lc (own := [("_law_many", 1)]) rfl S__law_row.nd (pdi_range1 rfl Fx.m_range (pda_cons pd_int pda_nil)) (blkOk_by (own := [("_law_many", 1)]) (N := N__law_row) (sc := defScope (top 41)) (by first | decide +kernel | kernel_rfl)) (by decide) (fun _ _ _ _ _ => (pgt_nm (i := 1) S__law_row.nd rfl (Or.inl rfl))) (fun _ _ _ _ _ => pdts_nil) (fun _ _ _ _ _ => (pd_callF o__law_cost hr (by decide) passN (pda_cons (pd_var 0) (pda_cons (pd_var 1) pda_nil)) (aLen_cons (aLen_cons aLen_nil)))))))
def N__law_fits : List Str := ["_law_rule", "_law_bills_here", "_law_many", "_law_cost_here"]
def t__law_fits_1 : DE → R Bool := (tBl (eOp dNe (eCall F__law_cost (aCons (eVar 0) (aCons (eVar 2) aNil))) (eVar 3)))
def b__law_fits : SB := (sRet [] (eOp dEq (eComp [2, 3] (iAny (eVar 1)) (.pr (.nm 2) (.nm 3)) t__law_fits_1 (eC (.int 1))) (eLst aNil)))
def F__law_fits : List D → R D := runD 4 b__law_fits
theorem S__law_fits : FnScope N__law_fits ["_law_rule", "_law_bills_here"] (defScope (top 45)) := ⟨rfl, rfl, rfl, by decide +kernel, rfl, by decide +kernel, by decide +kernel⟩
theorem ok__law_fits {f : Addr} {fd : FuncData} (Fx : Fc K w mg) (Df : DefF K mg "_law_fits" (top 45) f fd) {f__law_cost : Addr} {fd__law_cost : FuncData} (o__law_cost : OkF P w K mg base (gd K) "_law_cost" 1 2 ["_law_rule", "_law_many"] f__law_cost fd__law_cost F__law_cost) : OkF P w K mg base (gd K) "_law_fits" 2 2 ["_law_rule", "_law_bills_here"] f fd F__law_fits :=
  okF Df S__law_fits rfl (by decide) rfl (fun _ _ _ _ _ _ us hl => match us, hl with | [_, _], _ => rfl) fun cdv A outer s H E hr => (pssd_one (psd_ret [] (pd_eq (hu4_of hr) (pd_lc (own := [("_law_many", 2), ("_law_cost_here", 3)]) rfl S__law_fits.nd (pdi_any (pd_var 1)) (blkOk_by (own := [("_law_many", 2), ("_law_cost_here", 3)]) (N := N__law_fits) (sc := defScope (top 45)) (by first | decide +kernel | kernel_rfl)) (by decide) (fun _ _ _ _ _ => (pgt_pr rfl (pgt_nm (i := 2) S__law_fits.nd rfl (Or.inl rfl)) (pgt_nm (i := 3) S__law_fits.nd rfl (Or.inl rfl)))) (fun _ _ _ _ _ => (pdts_one (pdt_c1 (op_neD (hu4_of hr)) ok_ne (pd_callF o__law_cost hr (by decide) passN (pda_cons (pd_var 0) (pda_cons (pd_var 2) pda_nil)) (aLen_cons (aLen_cons aLen_nil))) (pd_var 3) (nomark _)))) (fun _ _ _ _ _ => pd_int)) (pd_lst pda_nil aLen_nil))))
def N_is_rule : List Str := ["thing", "bounds", "one", "low", "high"]
def e_is_rule_1 : DE → R D := (eCall F_is_count (aCons (eVar 2) (aCons (eVar 3) (aCons (eVar 4) aNil))))
def b_is_rule : SB := (sSeq (sIf [] (tOrr (tNt (tBl (eUn (dIsi "tuple") (eVar 0)))) (tOrr (tBl (eOp dEq (eVar 0) (eTup aNil))) (tOrr (tNt (tBl (eUn (dIsi "str") (eOp dIx (eVar 0) (eC (.int 0)))))) (tBl (eOp (dIn true) (eOp dIx (eVar 0) (eC (.int 0))) (eC c_KINDS)))))) (sRet [] (eC (.bool false)))
  sNext)
  (sSeq (sAsg 1 [] (eUn (dTab t_BOUNDS) (eOp dIx (eVar 0) (eC (.int 0)))))
  (sSeq (sIf [] (tBl (eOp dNe (eCall bLen (aCons (eVar 0) aNil)) (eOp dAdd (eCall bLen (aCons (eVar 1) aNil)) (eC (.int 1))))) (sRet [] (eC (.bool false)))
  sNext)
  (sRet [] (eCall bAll (aCons (eComp [2, 3, 4] (iZp (aCons (eSl (eVar 0) (oSome (eC (.int 1))) oNone) (aCons (eVar 1) aNil))) (.pr (.nm 2) (.pr (.nm 3) (.nm 4))) tTrue e_is_rule_1) aNil))))))
def F_is_rule : List D → R D := runD 5 b_is_rule
theorem S_is_rule : FnScope N_is_rule ["thing"] (defScope (top 14)) := ⟨rfl, rfl, rfl, by decide +kernel, rfl, by decide +kernel, by decide +kernel⟩
theorem ok_is_rule {f : Addr} {fd : FuncData} (Fx : Fc K w mg) (Df : DefF K mg "is_rule" (top 14) f fd) {f_is_count : Addr} {fd_is_count : FuncData} (o_is_count : OkF P w K mg base (gd K) "is_count" 1 3 ["thing", "low", "high"] f_is_count fd_is_count F_is_count) : OkF P w K mg base (gd K) "is_rule" 2 1 ["thing"] f fd F_is_rule :=
  okF Df S_is_rule rfl (by decide) rfl (fun _ _ _ _ _ _ us hl => match us, hl with | [_], _ => rfl) fun cdv A outer s H E hr => (pssd_cons (psd_if [] (PDW.t (pdw_or (pdt_not (pdt_val (pd_isi (T := "tuple") rfl Fx.m_isinstance rfl Fx.m_tuple (by decide +kernel) (pd_var 0)))) (pdw_or (pdt_c1 (op_eqD (hu4_of hr)) ok_eq (pd_var 0) (pd_tup pda_nil aLen_nil) (nomark _)) (pdw_or (pdt_not (pdt_val (pd_isi (T := "str") rfl Fx.m_isinstance rfl Fx.m_str (by decide +kernel) (pd_item (pd_var 0) pd_int)))) (pdw_or1 (pdt_c1 (op_notInAll (hu5_of hr)) ok_notIn (pd_item (pd_var 0) pd_int) (pd_con Fx.c_KINDS) rfl)))))) (pssd_one (psd_ret [] pd_bl))
  pssd_nil)
  (pssd_cons (psd_asg [] S_is_rule.nd rfl (Or.inl rfl) (pd_tabF Fx.t_BOUNDS (pd_item (pd_var 0) pd_int)))
  (pssd_cons (psd_if [] (pdt_c1 (op_neD (hu4_of hr)) ok_ne (pd_len rfl Fx.m_len (pda_cons (pd_var 0) pda_nil)) (pd_add (pd_len rfl Fx.m_len (pda_cons (pd_var 1) pda_nil)) pd_int) (nomark _)) (pssd_one (psd_ret [] pd_bl))
  pssd_nil)
  (pssd_one (psd_ret [] (pd_all rfl rfl Fx.m_all (pda_cons (pd_lc (own := [("one", 2), ("low", 3), ("high", 4)]) rfl S_is_rule.nd (pdi_zip rfl Fx.m_zip (pda_cons (pd_slice (pd_var 0) (pdo_some pd_int) pdo_none) (pda_cons (pd_var 1) pda_nil))) (blkOk_by (own := [("one", 2), ("low", 3), ("high", 4)]) (N := N_is_rule) (sc := defScope (top 14)) (by first | decide +kernel | kernel_rfl)) (by decide) (fun _ _ _ _ _ => (pgt_pr rfl (pgt_nm (i := 2) S_is_rule.nd rfl (Or.inl rfl)) (pgt_pr rfl (pgt_nm (i := 3) S_is_rule.nd rfl (Or.inl rfl)) (pgt_nm (i := 4) S_is_rule.nd rfl (Or.inl rfl))))) (fun _ _ _ _ _ => pdts_nil) (fun _ _ _ _ _ => (pd_callF o_is_count hr (by decide) passN (pda_cons (pd_var 2) (pda_cons (pd_var 3) (pda_cons (pd_var 4) pda_nil))) (aLen_cons (aLen_cons (aLen_cons aLen_nil)))))) pda_nil)))))))
def N_need_rule : List Str := ["rule"]
def b_need_rule : SB := (sIf [] (tNt (tBl (eCall F_is_rule (aCons (eVar 0) aNil)))) (sErr .badRule)
  sNext)
def F_need_rule : List D → R D := runD 1 b_need_rule
theorem S_need_rule : FnScope N_need_rule ["rule"] (defScope (top 15)) := ⟨rfl, rfl, rfl, by decide +kernel, rfl, by decide +kernel, by decide +kernel⟩
theorem ok_need_rule {f : Addr} {fd : FuncData} (Fx : Fc K w mg) (Df : DefF K mg "need_rule" (top 15) f fd) {f_is_rule : Addr} {fd_is_rule : FuncData} (o_is_rule : OkF P w K mg base (gd K) "is_rule" 2 1 ["thing"] f_is_rule fd_is_rule F_is_rule) : OkF P w K mg base (gd K) "need_rule" 3 1 ["rule"] f fd F_need_rule :=
  okF Df S_need_rule rfl (by decide) rfl (fun _ _ _ _ _ _ us hl => match us, hl with | [_], _ => rfl) fun cdv A outer s H E hr => (pssd_one (psd_if [] (pdt_not (pdt_val (pd_callF o_is_rule hr (by decide) (L2N.passes_call (L2N.takes_of rfl rfl rfl rfl) fun _ _ _ _ h => h) (pda_cons (pd_var 0) pda_nil) (aLen_cons aLen_nil)))) (pssd_one (psd_raiseF Fx.e_BadRule rfl (L2N.takes_of rfl rfl rfl rfl)))
  pssd_nil))
def N_fits : List Str := ["rule", "bills"]
def b_fits : SB := (sSeq (sExpr [] (eCall F_need_rule (aCons (eVar 0) aNil)))
  (sSeq (sExpr [] (eCall F_need_bills (aCons (eVar 1) aNil)))
  (sRet [] (eCall F_is_fit (aCons (eVar 0) (aCons (eVar 1) aNil))))))
def F_fits : List D → R D := runD 2 b_fits
theorem S_fits : FnScope N_fits ["rule", "bills"] (defScope (top 26)) := ⟨rfl, rfl, rfl, by decide +kernel, rfl, by decide +kernel, by decide +kernel⟩
theorem ok_fits {f : Addr} {fd : FuncData} (Fx : Fc K w mg) (Df : DefF K mg "fits" (top 26) f fd) {f_need_rule : Addr} {fd_need_rule : FuncData} (o_need_rule : OkF P w K mg base (gd K) "need_rule" 3 1 ["rule"] f_need_rule fd_need_rule F_need_rule) {f_need_bills : Addr} {fd_need_bills : FuncData} (o_need_bills : OkF P w K mg base (gd K) "need_bills" 3 1 ["bills"] f_need_bills fd_need_bills F_need_bills) {f_is_fit : Addr} {fd_is_fit : FuncData} (o_is_fit : OkF P w K mg base (gd K) "is_fit" 2 2 ["rule", "bills"] f_is_fit fd_is_fit F_is_fit) : OkF P w K mg base (gd K) "fits" 4 2 ["rule", "bills"] f fd F_fits :=
  okF Df S_fits rfl (by decide) rfl (fun _ _ _ _ _ _ us hl => match us, hl with | [_, _], _ => rfl) fun cdv A outer s H E hr => (pssd_cons (psd_expr [] (pd_callF o_need_rule hr (by decide) (L2N.passes_call (L2N.takes_of rfl rfl rfl rfl) fun _ _ _ _ h => h) (pda_cons (pd_var 0) pda_nil) (aLen_cons aLen_nil)))
  (pssd_cons (psd_expr [] (pd_callF o_need_bills hr (by decide) (L2N.passes_call (L2N.takes_of rfl rfl rfl rfl) fun _ _ _ _ h => h) (pda_cons (pd_var 1) pda_nil) (aLen_cons aLen_nil)))
  (pssd_one (psd_ret [] (pd_callF o_is_fit hr (by decide) (L2N.passes_call (L2N.takes_of rfl rfl rfl rfl) fun _ _ _ _ h => h) (pda_cons (pd_var 0) (pda_cons (pd_var 1) pda_nil)) (aLen_cons (aLen_cons aLen_nil)))))))
def N_costs : List Str := ["kinds", "bills", "many", "rule"]
def e_costs_1 : DE → R D := (eCall F_price (aCons (eVar 3) (aCons (eVar 2) aNil)))
def b_costs : SB := (sSeq (sExpr [] (eCall F_need_kinds (aCons (eVar 0) aNil)))
  (sSeq (sExpr [] (eCall F_need_bills (aCons (eVar 1) aNil)))
  (sSeq (sIf [] (tNt (tBl (eCall F_is_count (aCons (eVar 2) (aCons (eC (.int 0)) (aCons (eC c_MOST_MANY) aNil)))))) (sErr .badBill)
  sNext)
  (sRet [] (eUn dSortSet (eComp [3] (iAny (eCall F_fitting (aCons (eVar 0) (aCons (eVar 1) aNil)))) (.nm 3) tTrue e_costs_1))))))
def F_costs : List D → R D := runD 4 b_costs
theorem S_costs : FnScope N_costs ["kinds", "bills", "many"] (defScope (top 30)) := ⟨rfl, rfl, rfl, by decide +kernel, rfl, by decide +kernel, by decide +kernel⟩
theorem ok_costs {f : Addr} {fd : FuncData} (Fx : Fc K w mg) (Df : DefF K mg "costs" (top 30) f fd) {f_need_kinds : Addr} {fd_need_kinds : FuncData} (o_need_kinds : OkF P w K mg base (gd K) "need_kinds" 2 1 ["kinds"] f_need_kinds fd_need_kinds F_need_kinds) {f_need_bills : Addr} {fd_need_bills : FuncData} (o_need_bills : OkF P w K mg base (gd K) "need_bills" 3 1 ["bills"] f_need_bills fd_need_bills F_need_bills) {f_is_count : Addr} {fd_is_count : FuncData} (o_is_count : OkF P w K mg base (gd K) "is_count" 1 3 ["thing", "low", "high"] f_is_count fd_is_count F_is_count) {f_price : Addr} {fd_price : FuncData} (o_price : OkF P w K mg base (gd K) "price" 1 2 ["rule", "many"] f_price fd_price F_price) {f_fitting : Addr} {fd_fitting : FuncData} (o_fitting : OkF P w K mg base (gd K) "fitting" 3 2 ["kinds", "bills"] f_fitting fd_fitting F_fitting) : OkF P w K mg base (gd K) "costs" 4 3 ["kinds", "bills", "many"] f fd F_costs :=
  okF Df S_costs rfl (by decide) rfl (fun _ _ _ _ _ _ us hl => match us, hl with | [_, _, _], _ => rfl) fun cdv A outer s H E hr => (pssd_cons (psd_expr [] (pd_callF o_need_kinds hr (by decide) (L2N.passes_call (L2N.takes_of rfl rfl rfl rfl) fun _ _ _ _ h => h) (pda_cons (pd_var 0) pda_nil) (aLen_cons aLen_nil)))
  (pssd_cons (psd_expr [] (pd_callF o_need_bills hr (by decide) (L2N.passes_call (L2N.takes_of rfl rfl rfl rfl) fun _ _ _ _ h => h) (pda_cons (pd_var 1) pda_nil) (aLen_cons aLen_nil)))
  (pssd_cons (psd_if [] (pdt_not (pdt_val (pd_callF o_is_count hr (by decide) (L2N.passes_call (L2N.takes_of rfl rfl rfl rfl) fun _ _ _ _ h => h) (pda_cons (pd_var 2) (pda_cons pd_int (pda_cons (pd_con Fx.c_MOST_MANY) pda_nil))) (aLen_cons (aLen_cons (aLen_cons aLen_nil)))))) (pssd_one (psd_raiseF Fx.e_BadBill rfl (L2N.takes_of rfl rfl rfl rfl)))
  pssd_nil)
  (pssd_one (psd_ret [] (pd_sortSet rfl Fx.m_sorted rfl Fx.m_set (pd_lc (own := [("rule", 3)]) rfl S_costs.nd (pdi_any (pd_callF o_fitting hr (by decide) (L2N.passes_call (L2N.takes_of rfl rfl rfl rfl) fun _ _ _ _ h => h) (pda_cons (pd_var 0) (pda_cons (pd_var 1) pda_nil)) (aLen_cons (aLen_cons aLen_nil)))) (blkOk_by (own := [("rule", 3)]) (N := N_costs) (sc := defScope (top 30)) (by first | decide +kernel | kernel_rfl)) (by decide) (fun _ _ _ _ _ => (pgt_nm (i := 3) S_costs.nd rfl (Or.inl rfl))) (fun _ _ _ _ _ => pdts_nil) (fun _ _ _ _ _ => (pd_callF o_price hr (by decide) passN (pda_cons (pd_var 3) (pda_cons (pd_var 2) pda_nil)) (aLen_cons (aLen_cons aLen_nil))))) rfl))))))
def N_sure : List Str := ["kinds", "bills", "found", "rows", "rule", "many", "row"]
def e_sure_1 : DE → R D := (eCall F_price (aCons (eVar 4) (aCons (eVar 5) aNil)))
def e_sure_2 : DE → R D := (eUn dSortSet (eComp [4] (iAny (eVar 2)) (.nm 4) tTrue e_sure_1))
def e_sure_3 : DE → R D := (eIf (tBl (eOp dEq (eCall bLen (aCons (eVar 6) aNil)) (eC (.int 1)))) (eOp dIx (eVar 6) (eC (.int 0))) (eC .none))
def b_sure : SB := (sSeq (sExpr [] (eCall F_need_kinds (aCons (eVar 0) aNil)))
  (sSeq (sExpr [] (eCall F_need_bills (aCons (eVar 1) aNil)))
  (sSeq (sAsg 2 [] (eCall F_fitting (aCons (eVar 0) (aCons (eVar 1) aNil))))
  (sSeq (sIf [] (tBl (eOp dEq (eVar 2) (eLst aNil))) (sErr .noRule)
  sNext)
  (sSeq (sLc 3 [] (eComp [5] (iRg1 (aCons (eOp dAdd (eC c_MOST_MANY) (eC (.int 1))) aNil)) (.nm 5) tTrue e_sure_2))
  (sRet [] (eComp [6] (iAny (eVar 3)) (.nm 6) tTrue e_sure_3)))))))
def F_sure : List D → R D := runD 7 b_sure
theorem S_sure : FnScope N_sure ["kinds", "bills"] (defScope (top 31)) := ⟨rfl, rfl, rfl, by decide +kernel, rfl, by decide +kernel, by decide +kernel⟩
theorem ok_sure {f : Addr} {fd : FuncData} (Fx : Fc K w mg) (Df : DefF K mg "sure" (top 31) f fd) {f_need_kinds : Addr} {fd_need_kinds : FuncData} (o_need_kinds : OkF P w K mg base (gd K) "need_kinds" 2 1 ["kinds"] f_need_kinds fd_need_kinds F_need_kinds) {f_need_bills : Addr} {fd_need_bills : FuncData} (o_need_bills : OkF P w K mg base (gd K) "need_bills" 3 1 ["bills"] f_need_bills fd_need_bills F_need_bills) {f_fitting : Addr} {fd_fitting : FuncData} (o_fitting : OkF P w K mg base (gd K) "fitting" 3 2 ["kinds", "bills"] f_fitting fd_fitting F_fitting) {f_price : Addr} {fd_price : FuncData} (o_price : OkF P w K mg base (gd K) "price" 1 2 ["rule", "many"] f_price fd_price F_price) : OkF P w K mg base (gd K) "sure" 4 2 ["kinds", "bills"] f fd F_sure :=
  okF Df S_sure rfl (by decide) rfl (fun _ _ _ _ _ _ us hl => match us, hl with | [_, _], _ => rfl) fun cdv A outer s H E hr => (pssd_cons (psd_expr [] (pd_callF o_need_kinds hr (by decide) (L2N.passes_call (L2N.takes_of rfl rfl rfl rfl) fun _ _ _ _ h => h) (pda_cons (pd_var 0) pda_nil) (aLen_cons aLen_nil)))
  (pssd_cons (psd_expr [] (pd_callF o_need_bills hr (by decide) (L2N.passes_call (L2N.takes_of rfl rfl rfl rfl) fun _ _ _ _ h => h) (pda_cons (pd_var 1) pda_nil) (aLen_cons aLen_nil)))
  (pssd_cons (psd_asg [] S_sure.nd rfl (Or.inr rfl) (pd_callF o_fitting hr (by decide) (L2N.passes_call (L2N.takes_of rfl rfl rfl rfl) fun _ _ _ _ h => h) (pda_cons (pd_var 0) (pda_cons (pd_var 1) pda_nil)) (aLen_cons (aLen_cons aLen_nil))))
  (pssd_cons (psd_if [] (pdt_c1 (op_eqD (hu4_of hr)) ok_eq (pd_var 2) (pd_lst pda_nil aLen_nil) (nomark _)) (pssd_one (psd_raiseF Fx.e_NoRule rfl (L2N.takes_of rfl rfl rfl rfl)))
  pssd_nil)
  (pssd_cons (psd_setLc (own := [("many", 5)]) [] rfl S_sure.nd rfl rfl (sw_true rfl rfl rfl (by first | decide +kernel | rfl)) (pdi_range1 rfl Fx.m_range (pda_cons (pd_add (pd_con Fx.c_MOST_MANY) pd_int) pda_nil)) (blkOk_by (own := [("many", 5)]) (N := N_sure) (sc := defScope (top 31)) (by first | decide +kernel | kernel_rfl)) (by decide) (fun _ _ _ _ _ => (pgt_nm (i := 5) S_sure.nd rfl (by first | exact Or.inr rfl | exact Or.inl rfl))) (fun _ _ _ _ _ => pdts_nil) (fun _ _ _ _ _ => (pd_sortSet rfl Fx.m_sorted rfl Fx.m_set (pd_lc (own := [("rule", 4)]) rfl S_sure.nd (pdi_any (pd_var 2)) (blkOk_by (own := [("rule", 4)]) (N := N_sure) (by first | decide +kernel | kernel_rfl)) (by decide) (fun _ _ _ _ _ => (pgt_nm (i := 4) S_sure.nd rfl (Or.inl rfl))) (fun _ _ _ _ _ => pdts_nil) (fun _ _ _ _ _ => (pd_callF o_price hr (by decide) passN (pda_cons (pd_var 4) (pda_cons (pd_var 5) pda_nil)) (aLen_cons (aLen_cons aLen_nil))))) rfl)))
  (pssd_one (psd_ret [] (pd_lc (own := [("row", 6)]) rfl S_sure.nd (pdi_any (pd_var 3)) (blkOk_by (own := [("row", 6)]) (N := N_sure) (sc := defScope (top 31)) (by first | decide +kernel | kernel_rfl)) (by decide) (fun _ _ _ _ _ => (pgt_nm (i := 6) S_sure.nd rfl (Or.inl rfl))) (fun _ _ _ _ _ => pdts_nil) (fun _ _ _ _ _ => (pd_ite (pdt_c1 (op_eqD (hu4_of hr)) ok_eq (pd_len rfl Fx.m_len (pda_cons (pd_var 6) pda_nil)) pd_int (nomark _)) (pd_item (pd_var 6) pd_int) pd_non))))))))))
def N_is_settled : List Str := ["kinds", "bills"]
def b_is_settled : SB := (sSeq (sExpr [] (eCall F_need_kinds (aCons (eVar 0) aNil)))
  (sSeq (sExpr [] (eCall F_need_bills (aCons (eVar 1) aNil)))
  (sRet [] (vAn (eOp dNe (eCall F_fitting (aCons (eVar 0) (aCons (eVar 1) aNil))) (eLst aNil)) (eOp (dIn true) (eC .none) (eCall F_sure (aCons (eVar 0) (aCons (eVar 1) aNil))))))))
def F_is_settled : List D → R D := runD 2 b_is_settled
theorem S_is_settled : FnScope N_is_settled ["kinds", "bills"] (defScope (top 32)) := ⟨rfl, rfl, rfl, by decide +kernel, rfl, by decide +kernel, by decide +kernel⟩
theorem ok_is_settled {f : Addr} {fd : FuncData} (Fx : Fc K w mg) (Df : DefF K mg "is_settled" (top 32) f fd) {f_need_kinds : Addr} {fd_need_kinds : FuncData} (o_need_kinds : OkF P w K mg base (gd K) "need_kinds" 2 1 ["kinds"] f_need_kinds fd_need_kinds F_need_kinds) {f_need_bills : Addr} {fd_need_bills : FuncData} (o_need_bills : OkF P w K mg base (gd K) "need_bills" 3 1 ["bills"] f_need_bills fd_need_bills F_need_bills) {f_fitting : Addr} {fd_fitting : FuncData} (o_fitting : OkF P w K mg base (gd K) "fitting" 3 2 ["kinds", "bills"] f_fitting fd_fitting F_fitting) {f_sure : Addr} {fd_sure : FuncData} (o_sure : OkF P w K mg base (gd K) "sure" 4 2 ["kinds", "bills"] f_sure fd_sure F_sure) : OkF P w K mg base (gd K) "is_settled" 5 2 ["kinds", "bills"] f fd F_is_settled :=
  okF Df S_is_settled rfl (by decide) rfl (fun _ _ _ _ _ _ us hl => match us, hl with | [_, _], _ => rfl) fun cdv A outer s H E hr => (pssd_cons (psd_expr [] (pd_callF o_need_kinds hr (by decide) (L2N.passes_call (L2N.takes_of rfl rfl rfl rfl) fun _ _ _ _ h => h) (pda_cons (pd_var 0) pda_nil) (aLen_cons aLen_nil)))
  (pssd_cons (psd_expr [] (pd_callF o_need_bills hr (by decide) (L2N.passes_call (L2N.takes_of rfl rfl rfl rfl) fun _ _ _ _ h => h) (pda_cons (pd_var 1) pda_nil) (aLen_cons aLen_nil)))
  (pssd_one (psd_ret [] (pd_and (pd_ne (hu4_of hr) (pd_callF o_fitting hr (by decide) (L2N.passes_call (L2N.takes_of rfl rfl rfl rfl) fun _ _ _ _ h => h) (pda_cons (pd_var 0) (pda_cons (pd_var 1) pda_nil)) (aLen_cons (aLen_cons aLen_nil))) (pd_lst pda_nil aLen_nil)) (pd_one (pd_notIn (hu5_of hr) pd_non (pd_callF o_sure hr (by decide) (L2N.passes_call (L2N.takes_of rfl rfl rfl rfl) fun _ _ _ _ h => h) (pda_cons (pd_var 0) (pda_cons (pd_var 1) pda_nil)) (aLen_cons (aLen_cons aLen_nil))))))))))
def N_law : List Str := ["_law_script", "_law_k", "_law_more", "_law_kinds_here", "_law_bills_here", "_law_rules_here", "_law_due", "_law_rule", "_law_kind", "_law_j", "_law_rows", "_law_some_here", "_law_row_here", "_law_many", "_law_told_here", "_law_one"]
def t_law_1 : DE → R Bool := (tBl (eCall F__law_fits (aCons (eVar 7) (aCons (eVar 4) aNil))))
def e_law_2 : DE → R D := (eOp dIx (eVar 7) (eC (.int 0)))
def t_law_3 : DE → R Bool := (tBl (eOp (dIn false) (eVar 8) (eComp [7] (iAny (eVar 6)) (.nm 7) tTrue e_law_2)))
def L_law_4 : SB := (sSeq (sAsg 7 [] (eOp dIx (eVar 5) (eOp dMod (eCall F__law_drawn (aCons (eVar 2) (aCons (eOp dAdd (eC (.int 10)) (eVar 9)) aNil))) (eCall bLen (aCons (eVar 5) aNil)))))
  (sIf [] (tBl (eOp dNe (eCall F_fits (aCons (eVar 7) (aCons (eVar 4) aNil))) (eOp (dIn false) (eVar 7) (eVar 6)))) (sRet [] (eC (.bool false)))
  sNext))
def e_law_5 : DE → R D := (eCall F__law_row (aCons (eVar 7) aNil))
def e_law_6 : DE → R D := (eOp dIx (eVar 12) (eVar 13))
def e_law_7 : DE → R D := (eUn dSortSet (eComp [12] (iAny (eVar 10)) (.nm 12) tTrue e_law_6))
def L_law_8 : SB := (sIf [] (tBl (eOp dNe (eCall F_costs (aCons (eVar 3) (aCons (eVar 4) (aCons (eVar 13) aNil)))) (eOp dIx (eVar 11) (eVar 13)))) (sRet [] (eC (.bool false)))
  sNext)
def e_law_9 : DE → R D := (eIf (tBl (eOp dEq (eCall bLen (aCons (eVar 15) aNil)) (eC (.int 1)))) (eOp dIx (eVar 15) (eC (.int 0))) (eC .none))
def e_law_10 : DE → R D := (eCall bTuple (aCons (eVar 12) aNil))
def L_law_11 : SB := (sSeq (sAsg 2 [] (eCall F__law_drawn (aCons (eCall F__law_cell (aCons (eVar 0) (aCons (eVar 1) aNil))) (aCons (eVar 1) aNil))))
  (sSeq (sAsg 3 [] (eCall F__law_some (aCons (eOp dFdiv (eVar 2) (eC (.int 64))) aNil)))
  (sSeq (sAsg 4 [] (eCall F__law_bills (aCons (eCall F__law_drawn (aCons (eVar 2) (aCons (eC (.int 1)) aNil))) (aCons (eVar 3) aNil))))
  (sSeq (sAsg 5 [] (eCall F__law_rules (aCons (eVar 3) aNil)))
  (sSeq (sAsg 6 [] (eComp [7] (iAny (eVar 5)) (.nm 7) t_law_1 (eVar 7)))
  (sSeq (sIf [] (tBl (eOp dNe (eCall F_rules_for (aCons (eVar 3) (aCons (eVar 4) aNil))) (eVar 6))) (sRet [] (eC (.bool false)))
  sNext)
  (sSeq (sIf [] (tBl (eOp dNe (eCall F_kinds_for (aCons (eVar 3) (aCons (eVar 4) aNil))) (eComp [8] (iAny (eVar 3)) (.nm 8) t_law_3 (eVar 8)))) (sRet [] (eC (.bool false)))
  sNext)
  (sSeq (sFor [] (iRg1 (aCons (eC (.int 10)) aNil)) (.nm 9)
  L_law_4)
  (sSeq (sAsg 10 [] (eComp [7] (iAny (eVar 6)) (.nm 7) tTrue e_law_5))
  (sSeq (sLc 11 [] (eComp [13] (iRg1 (aCons (eC (.int 21)) aNil)) (.nm 13) tTrue e_law_7))
  (sSeq (sFor [] (iAny (eLst (aCons (eC (.int 0)) (aCons (eC (.int 1)) (aCons (eC (.int 2)) (aCons (eC (.int 20)) (aCons (eOp dMod (eVar 2) (eC (.int 21))) aNil))))))) (.nm 13)
  L_law_8)
  (sSeq (sAsg 14 [] (eTold wd (eCall F_sure (aCons (eVar 3) (aCons (eVar 4) aNil)))))
  (sIf [] (tBl (eOp dEq (eVar 6) (eLst aNil))) (sIf [] (tOrr (tBl (eOp dNe (eVar 14) (eC (.str "NoRule")))) (tBl (eOp dIsNot (eCall F_is_settled (aCons (eVar 3) (aCons (eVar 4) aNil))) (eC (.bool false))))) (sRet [] (eC (.bool false)))
  sNext)
  (sSeq (sIf [] (tBl (eOp dNe (eVar 14) (eComp [15] (iAny (eVar 11)) (.nm 15) tTrue e_law_9))) (sRet [] (eC (.bool false)))
  sNext)
  (sIf [] (tBl (eOp dNe (eCall F_is_settled (aCons (eVar 3) (aCons (eVar 4) aNil))) (eOp dEq (eUn dLenSetR (eComp [12] (iAny (eVar 10)) (.nm 12) tTrue e_law_10)) (eC (.int 1))))) (sRet [] (eC (.bool false)))
  sNext)))))))))))))))
def b_law : SB := (sSeq (sFor [] (iRg1 (aCons (eCall bMax2 (aCons (eC (.int 1)) (aCons (eCall bMin2 (aCons (eC (.int 3)) (aCons (eCall bLen (aCons (eVar 0) aNil)) aNil))) aNil))) aNil)) (.nm 1)
  L_law_11)
  (sRet [] (eC (.bool true))))
def F_law : List D → R D := runD 16 b_law
theorem S_law : FnScope N_law ["_law_script"] (defScope (top 46)) := ⟨rfl, rfl, rfl, by decide +kernel, rfl, by decide +kernel, by decide +kernel⟩
theorem ok_law {fd : FuncData} (Fx : Fc K w mg) (Df : DefF K mg "law" (top 46) (He.fAd K ("law", none)) fd) (Tb : LamX.TabB base mg (He.cT K ("law", none)).1 (He.cT K ("law", none)).2) {f__law_drawn : Addr} {fd__law_drawn : FuncData} (o__law_drawn : OkF P w K mg base (gd K) "_law_drawn" 1 2 ["_law_cell_here", "_law_k"] f__law_drawn fd__law_drawn F__law_drawn) {f__law_some : Addr} {fd__law_some : FuncData} (o__law_some : OkF P w K mg base (gd K) "_law_some" 2 1 ["_law_more"] f__law_some fd__law_some F__law_some) {f__law_bills : Addr} {fd__law_bills : FuncData} (o__law_bills : OkF P w K mg base (gd K) "_law_bills" 3 2 ["_law_more", "_law_kinds_here"] f__law_bills fd__law_bills F__law_bills) {f__law_rules : Addr} {fd__law_rules : FuncData} (o__law_rules : OkF P w K mg base (gd K) "_law_rules" 2 1 ["_law_kinds_here"] f__law_rules fd__law_rules F__law_rules) {f__law_cell : Addr} {fd__law_cell : FuncData} (o__law_cell : OkF P w K mg base (gd K) "_law_cell" 1 2 ["_law_script", "_law_k"] f__law_cell fd__law_cell F__law_cell) {f_rules_for : Addr} {fd_rules_for : FuncData} (o_rules_for : OkF P w K mg base (gd K) "rules_for" 4 2 ["kinds", "bills"] f_rules_for fd_rules_for F_rules_for) {f_kinds_for : Addr} {fd_kinds_for : FuncData} (o_kinds_for : OkF P w K mg base (gd K) "kinds_for" 4 2 ["kinds", "bills"] f_kinds_for fd_kinds_for F_kinds_for) {f__law_row : Addr} {fd__law_row : FuncData} (o__law_row : OkF P w K mg base (gd K) "_law_row" 2 1 ["_law_rule"] f__law_row fd__law_row F__law_row) {f__law_fits : Addr} {fd__law_fits : FuncData} (o__law_fits : OkF P w K mg base (gd K) "_law_fits" 2 2 ["_law_rule", "_law_bills_here"] f__law_fits fd__law_fits F__law_fits) {f_fits : Addr} {fd_fits : FuncData} (o_fits : OkF P w K mg base (gd K) "fits" 4 2 ["rule", "bills"] f_fits fd_fits F_fits) {f_costs : Addr} {fd_costs : FuncData} (o_costs : OkF P w K mg base (gd K) "costs" 4 3 ["kinds", "bills", "many"] f_costs fd_costs F_costs) {f_sure : Addr} {fd_sure : FuncData} (o_sure : OkF P w K mg base (gd K) "sure" 4 2 ["kinds", "bills"] f_sure fd_sure F_sure) {f_is_settled : Addr} {fd_is_settled : FuncData} (o_is_settled : OkF P w K mg base (gd K) "is_settled" 5 2 ["kinds", "bills"] f_is_settled fd_is_settled F_is_settled) {g_told fw_told : Addr} {fdg_told : FuncData} (To : ∀ k, 1 ≤ k → ToldF P w K mg base (gd K) k wd "_law_told" "_law_deed" "_law_e" "BillError" "_law_word" (top 37) g_told (He.ga K "BillError") fw_told fdg_told) : OkF P w K mg base (gd K) "law" 7 1 ["_law_script"] (He.fAd K ("law", none)) fd F_law :=
  okFL Df Tb S_law rfl (by decide) rfl (fun _ _ _ _ _ _ us hl => match us, hl with | [_], _ => rfl) fun c0 A outer s H E Tb hr => (pssd_cons (psd_for [] (passes_of rfl) rfl (pdi_range1 rfl Fx.m_range (pda_cons (pd_max2 rfl rfl Fx.m_max (pda_cons pd_int (pda_cons (pd_min2 rfl rfl Fx.m_min (pda_cons pd_int (pda_cons (pd_len rfl Fx.m_len (pda_cons (pd_var 0) pda_nil)) pda_nil))) pda_nil))) pda_nil)) (pgt_nm (i := 1) S_law.nd rfl (Or.inl rfl))
  (pssd_cons (psd_asg [] S_law.nd rfl (Or.inl rfl) (pd_callF o__law_drawn hr (by decide) (L2N.passes_call (L2N.takes_of rfl rfl rfl rfl) fun _ _ _ _ h => h) (pda_cons (pd_callF o__law_cell hr (by decide) (L2N.passes_call (L2N.takes_of rfl rfl rfl rfl) fun _ _ _ _ h => h) (pda_cons (pd_var 0) (pda_cons (pd_var 1) pda_nil)) (aLen_cons (aLen_cons aLen_nil))) (pda_cons (pd_var 1) pda_nil)) (aLen_cons (aLen_cons aLen_nil))))
  (pssd_cons (psd_asg [] S_law.nd rfl (Or.inr rfl) (pd_callF o__law_some hr (by decide) (L2N.passes_call (L2N.takes_of rfl rfl rfl rfl) fun _ _ _ _ h => h) (pda_cons (pd_fdiv (pd_var 2) pd_int) pda_nil) (aLen_cons aLen_nil)))
  (pssd_cons (psd_asg [] S_law.nd rfl (Or.inr rfl) (pd_callF o__law_bills hr (by decide) (L2N.passes_call (L2N.takes_of rfl rfl rfl rfl) fun _ _ _ _ h => h) (pda_cons (pd_callF o__law_drawn hr (by decide) (L2N.passes_call (L2N.takes_of rfl rfl rfl rfl) fun _ _ _ _ h => h) (pda_cons (pd_var 2) (pda_cons pd_int pda_nil)) (aLen_cons (aLen_cons aLen_nil))) (pda_cons (pd_var 3) pda_nil)) (aLen_cons (aLen_cons aLen_nil))))
  (pssd_cons (psd_asg [] S_law.nd rfl (Or.inl rfl) (pd_callF o__law_rules hr (by decide) (L2N.passes_call (L2N.takes_of rfl rfl rfl rfl) fun _ _ _ _ h => h) (pda_cons (pd_var 3) pda_nil) (aLen_cons aLen_nil)))
  (pssd_cons (psd_asg [] S_law.nd rfl (Or.inr rfl) (pd_lc (own := [("_law_rule", 7)]) rfl S_law.nd (pdi_any (pd_var 5)) (blkOk_by (own := [("_law_rule", 7)]) (N := N_law) (sc := defScope (top 46)) (by first | decide +kernel | kernel_rfl)) (by decide) (fun _ _ _ _ _ => (pgt_nm (i := 7) S_law.nd rfl (Or.inl rfl))) (fun _ _ _ _ _ => (pdts_one (pdt_val (pd_callF o__law_fits hr (by decide) passN (pda_cons (pd_var 7) (pda_cons (pd_var 4) pda_nil)) (aLen_cons (aLen_cons aLen_nil)))))) (fun _ _ _ _ _ => (pd_var 7))))
  (pssd_cons (psd_if [] (pdt_c1 (op_neD (hu4_of hr)) ok_ne (pd_callF o_rules_for hr (by decide) (L2N.passes_call (L2N.takes_of rfl rfl rfl rfl) fun _ _ _ _ h => h) (pda_cons (pd_var 3) (pda_cons (pd_var 4) pda_nil)) (aLen_cons (aLen_cons aLen_nil))) (pd_var 6) (nomark _)) (pssd_one (psd_ret [] pd_bl))
  pssd_nil)
  (pssd_cons (psd_if [] (pdt_c1 (op_neD (hu4_of hr)) ok_ne (pd_callF o_kinds_for hr (by decide) (L2N.passes_call (L2N.takes_of rfl rfl rfl rfl) fun _ _ _ _ h => h) (pda_cons (pd_var 3) (pda_cons (pd_var 4) pda_nil)) (aLen_cons (aLen_cons aLen_nil))) (pd_lc (own := [("_law_kind", 8)]) rfl S_law.nd (pdi_any (pd_var 3)) (blkOk_by (own := [("_law_kind", 8)]) (N := N_law) (sc := defScope (top 46)) (by first | decide +kernel | kernel_rfl)) (by decide) (fun _ _ _ _ _ => (pgt_nm (i := 8) S_law.nd rfl (Or.inl rfl))) (fun _ _ _ _ _ => (pdts_one (pdt_c1 (op_inAll (hu5_of hr)) ok_in (pd_var 8) (pd_lc (own := [("_law_rule", 7)]) rfl S_law.nd (pdi_any (pd_var 6)) (blkOk_by (own := [("_law_rule", 7)]) (N := N_law) (by first | decide +kernel | kernel_rfl)) (by decide) (fun _ _ _ _ _ => (pgt_nm (i := 7) S_law.nd rfl (Or.inl rfl))) (fun _ _ _ _ _ => pdts_nil) (fun _ _ _ _ _ => (pd_item (pd_var 7) pd_int))) rfl))) (fun _ _ _ _ _ => (pd_var 8))) (nomark _)) (pssd_one (psd_ret [] pd_bl))
  pssd_nil)
  (pssd_cons (psd_for [] (passes_of rfl) rfl (pdi_range1 rfl Fx.m_range (pda_cons pd_int pda_nil)) (pgt_nm (i := 9) S_law.nd rfl (Or.inl rfl))
  (pssd_cons (psd_asg [] S_law.nd rfl (Or.inl rfl) (pd_item (pd_var 5) (pd_mod (pd_callF o__law_drawn hr (by decide) (L2N.passes_call (L2N.takes_of rfl rfl rfl rfl) fun _ _ _ _ h => h) (pda_cons (pd_var 2) (pda_cons (pd_add pd_int (pd_var 9)) pda_nil)) (aLen_cons (aLen_cons aLen_nil))) (pd_len rfl Fx.m_len (pda_cons (pd_var 5) pda_nil)))))
  (pssd_one (psd_if [] (pdt_c1 (op_neD (hu4_of hr)) ok_ne (pd_callF o_fits hr (by decide) (L2N.passes_call (L2N.takes_of rfl rfl rfl rfl) fun _ _ _ _ h => h) (pda_cons (pd_var 7) (pda_cons (pd_var 4) pda_nil)) (aLen_cons (aLen_cons aLen_nil))) (pd_in (hu5_of hr) (pd_var 7) (pd_var 6)) (nomark _)) (pssd_one (psd_ret [] pd_bl))
  pssd_nil))))
  (pssd_cons (psd_asg [] S_law.nd rfl (Or.inr rfl) (pd_lc (own := [("_law_rule", 7)]) rfl S_law.nd (pdi_any (pd_var 6)) (blkOk_by (own := [("_law_rule", 7)]) (N := N_law) (sc := defScope (top 46)) (by first | decide +kernel | kernel_rfl)) (by decide) (fun _ _ _ _ _ => (pgt_nm (i := 7) S_law.nd rfl (Or.inl rfl))) (fun _ _ _ _ _ => pdts_nil) (fun _ _ _ _ _ => (pd_callF o__law_row hr (by decide) passN (pda_cons (pd_var 7) pda_nil) (aLen_cons aLen_nil)))))
  (pssd_cons (psd_setLc (own := [("_law_many", 13)]) [] rfl S_law.nd rfl rfl (sw_true rfl rfl rfl (by first | decide +kernel | rfl)) (pdi_range1 rfl Fx.m_range (pda_cons pd_int pda_nil)) (blkOk_by (own := [("_law_many", 13)]) (N := N_law) (sc := defScope (top 46)) (by first | decide +kernel | kernel_rfl)) (by decide) (fun _ _ _ _ _ => (pgt_nm (i := 13) S_law.nd rfl (by first | exact Or.inr rfl | exact Or.inl rfl))) (fun _ _ _ _ _ => pdts_nil) (fun _ _ _ _ _ => (pd_sortSet rfl Fx.m_sorted rfl Fx.m_set (pd_lc (own := [("_law_row_here", 12)]) rfl S_law.nd (pdi_any (pd_var 10)) (blkOk_by (own := [("_law_row_here", 12)]) (N := N_law) (by first | decide +kernel | kernel_rfl)) (by decide) (fun _ _ _ _ _ => (pgt_nm (i := 12) S_law.nd rfl (Or.inl rfl))) (fun _ _ _ _ _ => pdts_nil) (fun _ _ _ _ _ => (pd_item (pd_var 12) (pd_var 13)))) rfl)))
  (pssd_cons (psd_for [] (passes_of rfl) rfl (pdi_any (pd_lst (pda_cons pd_int (pda_cons pd_int (pda_cons pd_int (pda_cons pd_int (pda_cons (pd_mod (pd_var 2) pd_int) pda_nil))))) (aLen_cons (aLen_cons (aLen_cons (aLen_cons (aLen_cons aLen_nil))))))) (pgt_nm (i := 13) S_law.nd rfl (by first | exact Or.inr rfl | exact Or.inl rfl))
  (pssd_one (psd_if [] (pdt_c1 (op_neD (hu4_of hr)) ok_ne (pd_callF o_costs hr (by decide) (L2N.passes_call (L2N.takes_of rfl rfl rfl rfl) fun _ _ _ _ h => h) (pda_cons (pd_var 3) (pda_cons (pd_var 4) (pda_cons (pd_var 13) pda_nil))) (aLen_cons (aLen_cons (aLen_cons aLen_nil)))) (pd_item (pd_var 11) (pd_var 13)) (nomark _)) (pssd_one (psd_ret [] pd_bl))
  pssd_nil)))
  (pssd_cons (psd_asg [] S_law.nd rfl (Or.inl rfl) (pd_told (k := 4) (To 4 (by decide)) hr (by decide) rfl Tb rfl (lam_mem "law" (by decide)) (tab_one Fx.ndT (lam_mem "law" (by decide))) (LamX.lamS_by (by first | decide +kernel | kernel_rfl)) rfl (fun _ _ _ _ _ => rfl) (fun A outer s H E fl c1 hr => (pd_callF o_sure hr (by decide) (L2N.passes_call (L2N.takes_of rfl rfl rfl rfl) fun _ _ _ _ h => h) (pda_cons (pd_var 3) (pda_cons (pd_var 4) pda_nil)) (aLen_cons (aLen_cons aLen_nil))))))
  (pssd_one (psd_if [] (pdt_c1 (op_eqD (hu4_of hr)) ok_eq (pd_var 6) (pd_lst pda_nil aLen_nil) (nomark _)) (pssd_one (psd_if [] (PDW.t (pdw_or (pdt_c1 (op_neD (hu4_of hr)) ok_ne (pd_var 14) pd_str (nomark _)) (pdw_or1 (pdt_c1 op_notAll ok_isNot (pd_callF o_is_settled hr (by decide) (L2N.passes_call (L2N.takes_of rfl rfl rfl rfl) fun _ _ _ _ h => h) (pda_cons (pd_var 3) (pda_cons (pd_var 4) pda_nil)) (aLen_cons (aLen_cons aLen_nil))) pd_bl (nomark _))))) (pssd_one (psd_ret [] pd_bl))
  pssd_nil))
  (pssd_cons (psd_if [] (pdt_c1 (op_neD (hu4_of hr)) ok_ne (pd_var 14) (pd_lc (own := [("_law_one", 15)]) rfl S_law.nd (pdi_any (pd_var 11)) (blkOk_by (own := [("_law_one", 15)]) (N := N_law) (sc := defScope (top 46)) (by first | decide +kernel | kernel_rfl)) (by decide) (fun _ _ _ _ _ => (pgt_nm (i := 15) S_law.nd rfl (Or.inl rfl))) (fun _ _ _ _ _ => pdts_nil) (fun _ _ _ _ _ => (pd_ite (pdt_c1 (op_eqD (hu4_of hr)) ok_eq (pd_len rfl Fx.m_len (pda_cons (pd_var 15) pda_nil)) pd_int (nomark _)) (pd_item (pd_var 15) pd_int) pd_non))) (nomark _)) (pssd_one (psd_ret [] pd_bl))
  pssd_nil)
  (pssd_one (psd_if [] (pdt_c1 (op_neD (hu4_of hr)) ok_ne (pd_callF o_is_settled hr (by decide) (L2N.passes_call (L2N.takes_of rfl rfl rfl rfl) fun _ _ _ _ h => h) (pda_cons (pd_var 3) (pda_cons (pd_var 4) pda_nil)) (aLen_cons (aLen_cons aLen_nil))) (pd_eq (hu4_of hr) (pd_lenSetR (hu_of hr) rfl Fx.m_len rfl Fx.m_set (pd_lc (own := [("_law_row_here", 12)]) rfl S_law.nd (pdi_any (pd_var 10)) (blkOk_by (own := [("_law_row_here", 12)]) (N := N_law) (sc := defScope (top 46)) (by first | decide +kernel | kernel_rfl)) (by decide) (fun _ _ _ _ _ => (pgt_nm (i := 12) S_law.nd rfl (Or.inl rfl))) (fun _ _ _ _ _ => pdts_nil) (fun _ _ _ _ _ => (pd_tuple rfl Fx.m_tuple (pda_cons (pd_var 12) pda_nil)))) rfl) pd_int) (nomark _)) (pssd_one (psd_ret [] pd_bl))
  pssd_nil))))))))))))))))))
  (pssd_one (psd_ret [] pd_bl)))
end
end DL.K30
set_option Elab.async false
set_option linter.all false
set_option maxRecDepth 100000
set_option maxHeartbeats 4000000
/-! P0a: the valid rules, kinds compared, is_count. -/
namespace DL.K30
open PySem PySem.Spec PyProof.Rows L2 RZ DL
/-- the valid rules -/
inductive Rl where
  | flat (c : Nat) | each (c : Nat) | base (a b : Nat) | frm (c n d : Nat) | packs (c n : Nat) | gift (c n : Nat) | least (a b : Nat) | most (a b : Nat) | off (c n d : Nat)
def Rl.D : Rl → PyData
  | .flat c => .tuple [.str "flat", .int c]
  | .each c => .tuple [.str "each", .int c]
  | .base a b => .tuple [.str "base", .int a, .int b]
  | .frm c n d => .tuple [.str "from", .int c, .int n, .int d]
  | .packs c n => .tuple [.str "packs", .int c, .int n]
  | .gift c n => .tuple [.str "gift", .int c, .int n]
  | .least a b => .tuple [.str "least", .int a, .int b]
  | .most a b => .tuple [.str "most", .int a, .int b]
  | .off c n d => .tuple [.str "off", .int c, .int n, .int d]
def Rl.ok : Rl → Prop
  | .flat c => c < 10
  | .each c => c < 10
  | .base a b => a < 10 ∧ b < 10
  | .frm c n d => c < 10 ∧ (0 < n ∧ n < 6) ∧ d < 10
  | .packs c n => c < 10 ∧ 0 < n ∧ n < 6
  | .gift c n => c < 10 ∧ 0 < n ∧ n < 6
  | .least a b => a < 10 ∧ b < 10
  | .most a b => a < 10 ∧ b < 10
  | .off c n d => c < 10 ∧ (0 < n ∧ n < 6) ∧ d < 10
def kindsL : List Str := ["flat", "each", "base", "from", "packs", "gift", "least", "most", "off"]
/-- the price, as the program has it -/
def Rl.pr (m : Nat) : Rl → Int
  | .flat c => c
  | .each c => c * m
  | .base a b => a + b * m
  | .frm c n d => c * (if (n : Int) < m then (n : Int) else m) + d * (if (m : Int) - n > 0 then (m : Int) - n else 0)
  | .packs c n => c * (((m : Int) + n - 1) / n)
  | .gift c n => c * ((m : Int) - m / n)
  | .least a b => if (b : Int) * m > a then (b : Int) * m else a
  | .most a b => if (b : Int) * m < (a : Int) * 5 then (b : Int) * m else (a : Int) * 5
  | .off c n d => if (c : Int) * m - (if (n : Int) ≤ m then (d : Int) else 0) > 0 then (c : Int) * m - (if (n : Int) ≤ m then (d : Int) else 0) else 0
theorem q_flat_flat : dEq (.str "flat") (.str "flat") = .ok (.bool true) := by kernel_rfl
theorem q_flat_each : dEq (.str "flat") (.str "each") = .ok (.bool false) := by kernel_rfl
theorem q_flat_base : dEq (.str "flat") (.str "base") = .ok (.bool false) := by kernel_rfl
theorem q_flat_from : dEq (.str "flat") (.str "from") = .ok (.bool false) := by kernel_rfl
theorem q_flat_packs : dEq (.str "flat") (.str "packs") = .ok (.bool false) := by kernel_rfl
theorem q_flat_gift : dEq (.str "flat") (.str "gift") = .ok (.bool false) := by kernel_rfl
theorem q_flat_least : dEq (.str "flat") (.str "least") = .ok (.bool false) := by kernel_rfl
theorem q_flat_most : dEq (.str "flat") (.str "most") = .ok (.bool false) := by kernel_rfl
theorem q_flat_off : dEq (.str "flat") (.str "off") = .ok (.bool false) := by kernel_rfl
theorem in_flat : dIn true (.str "flat") c_KINDS = .ok (.bool false) := by kernel_rfl
theorem eo_flat : dIn false (.str "flat") (.tuple [.str "each", .str "off"]) = .ok (.bool false) := by kernel_rfl
theorem bd_flat : dTab t_BOUNDS (.str "flat") = .ok (.tuple [.tuple [.int 0, .int 9]]) := by kernel_rfl
theorem ne_flat (x : Int) : dEq (.tuple [.str "flat", .int x]) (.tuple []) = .ok (.bool false) := by kernel_rfl
theorem q_each_flat : dEq (.str "each") (.str "flat") = .ok (.bool false) := by kernel_rfl
theorem q_each_each : dEq (.str "each") (.str "each") = .ok (.bool true) := by kernel_rfl
theorem q_each_base : dEq (.str "each") (.str "base") = .ok (.bool false) := by kernel_rfl
theorem q_each_from : dEq (.str "each") (.str "from") = .ok (.bool false) := by kernel_rfl
theorem q_each_packs : dEq (.str "each") (.str "packs") = .ok (.bool false) := by kernel_rfl
theorem q_each_gift : dEq (.str "each") (.str "gift") = .ok (.bool false) := by kernel_rfl
theorem q_each_least : dEq (.str "each") (.str "least") = .ok (.bool false) := by kernel_rfl
theorem q_each_most : dEq (.str "each") (.str "most") = .ok (.bool false) := by kernel_rfl
theorem q_each_off : dEq (.str "each") (.str "off") = .ok (.bool false) := by kernel_rfl
theorem in_each : dIn true (.str "each") c_KINDS = .ok (.bool false) := by kernel_rfl
theorem eo_each : dIn false (.str "each") (.tuple [.str "each", .str "off"]) = .ok (.bool true) := by kernel_rfl
theorem bd_each : dTab t_BOUNDS (.str "each") = .ok (.tuple [.tuple [.int 0, .int 9]]) := by kernel_rfl
theorem ne_each (x : Int) : dEq (.tuple [.str "each", .int x]) (.tuple []) = .ok (.bool false) := by kernel_rfl
theorem q_base_flat : dEq (.str "base") (.str "flat") = .ok (.bool false) := by kernel_rfl
theorem q_base_each : dEq (.str "base") (.str "each") = .ok (.bool false) := by kernel_rfl
theorem q_base_base : dEq (.str "base") (.str "base") = .ok (.bool true) := by kernel_rfl
theorem q_base_from : dEq (.str "base") (.str "from") = .ok (.bool false) := by kernel_rfl
theorem q_base_packs : dEq (.str "base") (.str "packs") = .ok (.bool false) := by kernel_rfl
theorem q_base_gift : dEq (.str "base") (.str "gift") = .ok (.bool false) := by kernel_rfl
theorem q_base_least : dEq (.str "base") (.str "least") = .ok (.bool false) := by kernel_rfl
theorem q_base_most : dEq (.str "base") (.str "most") = .ok (.bool false) := by kernel_rfl
theorem q_base_off : dEq (.str "base") (.str "off") = .ok (.bool false) := by kernel_rfl
theorem in_base : dIn true (.str "base") c_KINDS = .ok (.bool false) := by kernel_rfl
theorem eo_base : dIn false (.str "base") (.tuple [.str "each", .str "off"]) = .ok (.bool false) := by kernel_rfl
theorem bd_base : dTab t_BOUNDS (.str "base") = .ok (.tuple [.tuple [.int 0, .int 9], .tuple [.int 0, .int 9]]) := by kernel_rfl
theorem ne_base (x y : Int) : dEq (.tuple [.str "base", .int x, .int y]) (.tuple []) = .ok (.bool false) := by kernel_rfl
theorem q_from_flat : dEq (.str "from") (.str "flat") = .ok (.bool false) := by kernel_rfl
theorem q_from_each : dEq (.str "from") (.str "each") = .ok (.bool false) := by kernel_rfl
theorem q_from_base : dEq (.str "from") (.str "base") = .ok (.bool false) := by kernel_rfl
theorem q_from_from : dEq (.str "from") (.str "from") = .ok (.bool true) := by kernel_rfl
theorem q_from_packs : dEq (.str "from") (.str "packs") = .ok (.bool false) := by kernel_rfl
theorem q_from_gift : dEq (.str "from") (.str "gift") = .ok (.bool false) := by kernel_rfl
theorem q_from_least : dEq (.str "from") (.str "least") = .ok (.bool false) := by kernel_rfl
theorem q_from_most : dEq (.str "from") (.str "most") = .ok (.bool false) := by kernel_rfl
theorem q_from_off : dEq (.str "from") (.str "off") = .ok (.bool false) := by kernel_rfl
theorem in_from : dIn true (.str "from") c_KINDS = .ok (.bool false) := by kernel_rfl
theorem eo_from : dIn false (.str "from") (.tuple [.str "each", .str "off"]) = .ok (.bool false) := by kernel_rfl
theorem bd_from : dTab t_BOUNDS (.str "from") = .ok (.tuple [.tuple [.int 0, .int 9], .tuple [.int 1, .int 5], .tuple [.int 0, .int 9]]) := by kernel_rfl
theorem ne_from (x y z : Int) : dEq (.tuple [.str "from", .int x, .int y, .int z]) (.tuple []) = .ok (.bool false) := by kernel_rfl
theorem q_packs_flat : dEq (.str "packs") (.str "flat") = .ok (.bool false) := by kernel_rfl
theorem q_packs_each : dEq (.str "packs") (.str "each") = .ok (.bool false) := by kernel_rfl
theorem q_packs_base : dEq (.str "packs") (.str "base") = .ok (.bool false) := by kernel_rfl
theorem q_packs_from : dEq (.str "packs") (.str "from") = .ok (.bool false) := by kernel_rfl
theorem q_packs_packs : dEq (.str "packs") (.str "packs") = .ok (.bool true) := by kernel_rfl
theorem q_packs_gift : dEq (.str "packs") (.str "gift") = .ok (.bool false) := by kernel_rfl
theorem q_packs_least : dEq (.str "packs") (.str "least") = .ok (.bool false) := by kernel_rfl
theorem q_packs_most : dEq (.str "packs") (.str "most") = .ok (.bool false) := by kernel_rfl
theorem q_packs_off : dEq (.str "packs") (.str "off") = .ok (.bool false) := by kernel_rfl
theorem in_packs : dIn true (.str "packs") c_KINDS = .ok (.bool false) := by kernel_rfl
theorem eo_packs : dIn false (.str "packs") (.tuple [.str "each", .str "off"]) = .ok (.bool false) := by kernel_rfl
theorem bd_packs : dTab t_BOUNDS (.str "packs") = .ok (.tuple [.tuple [.int 0, .int 9], .tuple [.int 1, .int 5]]) := by kernel_rfl
theorem ne_packs (x y : Int) : dEq (.tuple [.str "packs", .int x, .int y]) (.tuple []) = .ok (.bool false) := by kernel_rfl
theorem q_gift_flat : dEq (.str "gift") (.str "flat") = .ok (.bool false) := by kernel_rfl
theorem q_gift_each : dEq (.str "gift") (.str "each") = .ok (.bool false) := by kernel_rfl
theorem q_gift_base : dEq (.str "gift") (.str "base") = .ok (.bool false) := by kernel_rfl
theorem q_gift_from : dEq (.str "gift") (.str "from") = .ok (.bool false) := by kernel_rfl
theorem q_gift_packs : dEq (.str "gift") (.str "packs") = .ok (.bool false) := by kernel_rfl
theorem q_gift_gift : dEq (.str "gift") (.str "gift") = .ok (.bool true) := by kernel_rfl
theorem q_gift_least : dEq (.str "gift") (.str "least") = .ok (.bool false) := by kernel_rfl
theorem q_gift_most : dEq (.str "gift") (.str "most") = .ok (.bool false) := by kernel_rfl
theorem q_gift_off : dEq (.str "gift") (.str "off") = .ok (.bool false) := by kernel_rfl
theorem in_gift : dIn true (.str "gift") c_KINDS = .ok (.bool false) := by kernel_rfl
theorem eo_gift : dIn false (.str "gift") (.tuple [.str "each", .str "off"]) = .ok (.bool false) := by kernel_rfl
theorem bd_gift : dTab t_BOUNDS (.str "gift") = .ok (.tuple [.tuple [.int 0, .int 9], .tuple [.int 1, .int 5]]) := by kernel_rfl
theorem ne_gift (x y : Int) : dEq (.tuple [.str "gift", .int x, .int y]) (.tuple []) = .ok (.bool false) := by kernel_rfl
theorem q_least_flat : dEq (.str "least") (.str "flat") = .ok (.bool false) := by kernel_rfl
theorem q_least_each : dEq (.str "least") (.str "each") = .ok (.bool false) := by kernel_rfl
theorem q_least_base : dEq (.str "least") (.str "base") = .ok (.bool false) := by kernel_rfl
theorem q_least_from : dEq (.str "least") (.str "from") = .ok (.bool false) := by kernel_rfl
theorem q_least_packs : dEq (.str "least") (.str "packs") = .ok (.bool false) := by kernel_rfl
theorem q_least_gift : dEq (.str "least") (.str "gift") = .ok (.bool false) := by kernel_rfl
theorem q_least_least : dEq (.str "least") (.str "least") = .ok (.bool true) := by kernel_rfl
theorem q_least_most : dEq (.str "least") (.str "most") = .ok (.bool false) := by kernel_rfl
theorem q_least_off : dEq (.str "least") (.str "off") = .ok (.bool false) := by kernel_rfl
theorem in_least : dIn true (.str "least") c_KINDS = .ok (.bool false) := by kernel_rfl
theorem eo_least : dIn false (.str "least") (.tuple [.str "each", .str "off"]) = .ok (.bool false) := by kernel_rfl
theorem bd_least : dTab t_BOUNDS (.str "least") = .ok (.tuple [.tuple [.int 0, .int 9], .tuple [.int 0, .int 9]]) := by kernel_rfl
theorem ne_least (x y : Int) : dEq (.tuple [.str "least", .int x, .int y]) (.tuple []) = .ok (.bool false) := by kernel_rfl
theorem q_most_flat : dEq (.str "most") (.str "flat") = .ok (.bool false) := by kernel_rfl
theorem q_most_each : dEq (.str "most") (.str "each") = .ok (.bool false) := by kernel_rfl
theorem q_most_base : dEq (.str "most") (.str "base") = .ok (.bool false) := by kernel_rfl
theorem q_most_from : dEq (.str "most") (.str "from") = .ok (.bool false) := by kernel_rfl
theorem q_most_packs : dEq (.str "most") (.str "packs") = .ok (.bool false) := by kernel_rfl
theorem q_most_gift : dEq (.str "most") (.str "gift") = .ok (.bool false) := by kernel_rfl
theorem q_most_least : dEq (.str "most") (.str "least") = .ok (.bool false) := by kernel_rfl
theorem q_most_most : dEq (.str "most") (.str "most") = .ok (.bool true) := by kernel_rfl
theorem q_most_off : dEq (.str "most") (.str "off") = .ok (.bool false) := by kernel_rfl
theorem in_most : dIn true (.str "most") c_KINDS = .ok (.bool false) := by kernel_rfl
theorem eo_most : dIn false (.str "most") (.tuple [.str "each", .str "off"]) = .ok (.bool false) := by kernel_rfl
theorem bd_most : dTab t_BOUNDS (.str "most") = .ok (.tuple [.tuple [.int 0, .int 9], .tuple [.int 0, .int 9]]) := by kernel_rfl
theorem ne_most (x y : Int) : dEq (.tuple [.str "most", .int x, .int y]) (.tuple []) = .ok (.bool false) := by kernel_rfl
theorem q_off_flat : dEq (.str "off") (.str "flat") = .ok (.bool false) := by kernel_rfl
theorem q_off_each : dEq (.str "off") (.str "each") = .ok (.bool false) := by kernel_rfl
theorem q_off_base : dEq (.str "off") (.str "base") = .ok (.bool false) := by kernel_rfl
theorem q_off_from : dEq (.str "off") (.str "from") = .ok (.bool false) := by kernel_rfl
theorem q_off_packs : dEq (.str "off") (.str "packs") = .ok (.bool false) := by kernel_rfl
theorem q_off_gift : dEq (.str "off") (.str "gift") = .ok (.bool false) := by kernel_rfl
theorem q_off_least : dEq (.str "off") (.str "least") = .ok (.bool false) := by kernel_rfl
theorem q_off_most : dEq (.str "off") (.str "most") = .ok (.bool false) := by kernel_rfl
theorem q_off_off : dEq (.str "off") (.str "off") = .ok (.bool true) := by kernel_rfl
theorem in_off : dIn true (.str "off") c_KINDS = .ok (.bool false) := by kernel_rfl
theorem eo_off : dIn false (.str "off") (.tuple [.str "each", .str "off"]) = .ok (.bool true) := by kernel_rfl
theorem bd_off : dTab t_BOUNDS (.str "off") = .ok (.tuple [.tuple [.int 0, .int 9], .tuple [.int 1, .int 5], .tuple [.int 0, .int 9]]) := by kernel_rfl
theorem ne_off (x y z : Int) : dEq (.tuple [.str "off", .int x, .int y, .int z]) (.tuple []) = .ok (.bool false) := by kernel_rfl

theorem is_count_i (x lo hi : Int) : F_is_count [.int x, .int lo, .int hi] = .ok (.bool (if pLe lo x = true then pLe x hi else false)) := by
  simp only [F_is_count, b_is_count, seq_a, seq_nx, seq_rt, seq_ct, seq_bk, seq_err, if_a, if_t, if_f, asg_a, asg_k, own_a, own_k, lc_a, lc_k, ex_a, ex_k, rt_a, rt_k, op_a, op_k, op_k2, un_a, cons_a, cons_k, cons_k2, nil_a, c_a, tup_a, tup_k, lst_a, lst_k, bl_a, bl_k, eif_a, eif_t, eif_f, nt_a, nt_k, an_a, an_t, an_f, or_a, or_t, or_f, van_a, van_t, van_f, vor_a, vor_t, vor_f, vnt_a, vnt_k, ch_a, ch_ka, ch_kb, ch_t, ch_f, ch_k2, par_a, par_k, tg_a, tg_k, nx_k, b_nm, b_pr, b_tr, tr_k, e_nm, e_pr, for_a, for_k, call_a, any_a, items_l, items_t, idx_a, idx_k, idx_k2, no_a, some_a, some_k, sl_a, sl_k, sl_k1, sl_k2, get_a, get_k, get_k1, get_k2, run_a, run_rt, run_ro, run_nx, runo_a, runo_k, next_a, err_a, v0, v1, kD_ok, kD_err, vw_nil, th_nil, frz_nil, unS_fz, unS_no, unS_ow, List.map_cons, List.map_nil, List.set_cons_zero, List.set_cons_succ, startD, List.replicate, List.cons_append, List.nil_append, List.length_cons, List.length_nil, Nat.reduceAdd, Nat.reduceSub, dAdd_i, dSub_i, dOrd_i, bMin2_i, bMax2_i, tx0, tx1, tx2, tx3, lx0, lx1, comp_a, comp_k, comp_nil, comp_cons, comp_k1, comp_t, comp_f, comp_k3, comp_tt, pure_ok, wipe_nil, wipe_cons, en_a, en_k, enF_nil, enF_cons, zp_a, zp_l, zp_t, zpF_cons, zpF_nil, rg1_a, rg2_a, len_t, len_l, tuple_l, isi_ii, isi_bi, isi_tt, isi_ll, isi_ss, sl1, Bool.not_true, Bool.not_false, app_b, app_l, tix_a, tix_l, reto_a, reto_l, List.getElem?_cons_zero, List.getElem?_cons_succ, paro_a, paro_k, neg_i, rev_l, cut_l, told_a, told_ok, told_err, zp_m, compx_a, compx_k, tx_a, tx_k, Bool.not_false]
  cases h : pLe lo x <;> simp [ch_t, ch_f, kD_ok, ch_k2, v0, v1, rt_k, run_rt]
theorem is_count_ok {x lo hi : Int} (h1 : lo ≤ x) (h2 : x ≤ hi) : F_is_count [.int x, .int lo, .int hi] = .ok (.bool true) := by
  rw [is_count_i]
  simp [pLe, h1, h2]
theorem all1 (a : Bool) : bAll [.list [.bool a]] = .ok (.bool (a && true)) := by rfl
theorem all2 (a b : Bool) : bAll [.list [.bool a, .bool b]] = .ok (.bool (a && (b && true))) := by rfl
theorem all3 (a b c : Bool) : bAll [.list [.bool a, .bool b, .bool c]] = .ok (.bool (a && (b && (c && true)))) := by rfl
theorem cnt09 {c : Nat} (h : c < 10) : F_is_count [.int c, .int 0, .int 9] = .ok (.bool true) := is_count_ok (by omega) (by omega)
theorem cnt15 {c : Nat} (h : 0 < c ∧ c < 6) : F_is_count [.int c, .int 1, .int 5] = .ok (.bool true) := is_count_ok (by omega) (by omega)
end DL.K30
set_option Elab.async false
set_option linter.all false
set_option maxRecDepth 100000
set_option maxHeartbeats 4000000
/-! P0b: is_rule on valid rules. -/
namespace DL.K30
open PySem PySem.Spec PyProof.Rows L2 RZ DL
theorem nn1 : (!(((2 : Nat) : Int) == ((1 : Nat) : Int) + 1)) = false := by decide
theorem nn2 : (!(((3 : Nat) : Int) == ((2 : Nat) : Int) + 1)) = false := by decide
theorem nn3 : (!(((4 : Nat) : Int) == ((3 : Nat) : Int) + 1)) = false := by decide
theorem is_rule_ok (r : Rl) (h : r.ok) : F_is_rule [r.D] = .ok (.bool true) := by
  cases r with
  | flat c =>
    have h1 := cnt09 h
    simp only [Rl.D, F_is_rule, b_is_rule, e_is_rule_1, seq_a, seq_nx, seq_rt, seq_ct, seq_bk, seq_err, if_a, if_t, if_f, asg_a, asg_k, own_a, own_k, lc_a, lc_k, ex_a, ex_k, rt_a, rt_k, op_a, op_k, op_k2, un_a, cons_a, cons_k, cons_k2, nil_a, c_a, tup_a, tup_k, lst_a, lst_k, bl_a, bl_k, eif_a, eif_t, eif_f, nt_a, nt_k, an_a, an_t, an_f, or_a, or_t, or_f, van_a, van_t, van_f, vor_a, vor_t, vor_f, vnt_a, vnt_k, ch_a, ch_ka, ch_kb, ch_t, ch_f, ch_k2, par_a, par_k, tg_a, tg_k, nx_k, b_nm, b_pr, b_tr, tr_k, e_nm, e_pr, for_a, for_k, call_a, any_a, items_l, items_t, idx_a, idx_k, idx_k2, no_a, some_a, some_k, sl_a, sl_k, sl_k1, sl_k2, get_a, get_k, get_k1, get_k2, run_a, run_rt, run_ro, run_nx, runo_a, runo_k, next_a, err_a, v0, v1, kD_ok, kD_err, vw_nil, th_nil, frz_nil, unS_fz, unS_no, unS_ow, List.map_cons, List.map_nil, List.set_cons_zero, List.set_cons_succ, startD, List.replicate, List.cons_append, List.nil_append, List.length_cons, List.length_nil, Nat.reduceAdd, Nat.reduceSub, dAdd_i, dSub_i, dOrd_i, bMin2_i, bMax2_i, tx0, tx1, tx2, tx3, lx0, lx1, comp_a, comp_k, comp_nil, comp_cons, comp_k1, comp_t, comp_f, comp_k3, comp_tt, pure_ok, wipe_nil, wipe_cons, en_a, en_k, enF_nil, enF_cons, zp_a, zp_l, zp_t, zpF_cons, zpF_nil, rg1_a, rg2_a, len_t, len_l, tuple_l, isi_ii, isi_bi, isi_tt, isi_ll, isi_ss, sl1, Bool.not_true, Bool.not_false, app_b, app_l, tix_a, tix_l, reto_a, reto_l, List.getElem?_cons_zero, List.getElem?_cons_succ, paro_a, paro_k, neg_i, rev_l, cut_l, told_a, told_ok, told_err, zp_m, compx_a, compx_k, tx_a, tx_k, q_flat_flat, q_flat_each, q_flat_base, q_flat_from, q_flat_packs, q_flat_gift, q_flat_least, q_flat_most, q_flat_off, q_each_flat, q_each_each, q_each_base, q_each_from, q_each_packs, q_each_gift, q_each_least, q_each_most, q_each_off, q_base_flat, q_base_each, q_base_base, q_base_from, q_base_packs, q_base_gift, q_base_least, q_base_most, q_base_off, q_from_flat, q_from_each, q_from_base, q_from_from, q_from_packs, q_from_gift, q_from_least, q_from_most, q_from_off, q_packs_flat, q_packs_each, q_packs_base, q_packs_from, q_packs_packs, q_packs_gift, q_packs_least, q_packs_most, q_packs_off, q_gift_flat, q_gift_each, q_gift_base, q_gift_from, q_gift_packs, q_gift_gift, q_gift_least, q_gift_most, q_gift_off, q_least_flat, q_least_each, q_least_base, q_least_from, q_least_packs, q_least_gift, q_least_least, q_least_most, q_least_off, q_most_flat, q_most_each, q_most_base, q_most_from, q_most_packs, q_most_gift, q_most_least, q_most_most, q_most_off, q_off_flat, q_off_each, q_off_base, q_off_from, q_off_packs, q_off_gift, q_off_least, q_off_most, q_off_off, in_flat, in_each, in_base, in_from, in_packs, in_gift, in_least, in_most, in_off, eo_flat, eo_each, eo_base, eo_from, eo_packs, eo_gift, eo_least, eo_most, eo_off, bd_flat, bd_each, bd_base, bd_from, bd_packs, bd_gift, bd_least, bd_most, bd_off, ne_flat, ne_each, ne_base, ne_from, ne_packs, ne_gift, ne_least, ne_most, ne_off, neI, nn1, nn2, nn3, all1, h1]
    rfl
  | each c =>
    have h1 := cnt09 h
    simp only [Rl.D, F_is_rule, b_is_rule, e_is_rule_1, seq_a, seq_nx, seq_rt, seq_ct, seq_bk, seq_err, if_a, if_t, if_f, asg_a, asg_k, own_a, own_k, lc_a, lc_k, ex_a, ex_k, rt_a, rt_k, op_a, op_k, op_k2, un_a, cons_a, cons_k, cons_k2, nil_a, c_a, tup_a, tup_k, lst_a, lst_k, bl_a, bl_k, eif_a, eif_t, eif_f, nt_a, nt_k, an_a, an_t, an_f, or_a, or_t, or_f, van_a, van_t, van_f, vor_a, vor_t, vor_f, vnt_a, vnt_k, ch_a, ch_ka, ch_kb, ch_t, ch_f, ch_k2, par_a, par_k, tg_a, tg_k, nx_k, b_nm, b_pr, b_tr, tr_k, e_nm, e_pr, for_a, for_k, call_a, any_a, items_l, items_t, idx_a, idx_k, idx_k2, no_a, some_a, some_k, sl_a, sl_k, sl_k1, sl_k2, get_a, get_k, get_k1, get_k2, run_a, run_rt, run_ro, run_nx, runo_a, runo_k, next_a, err_a, v0, v1, kD_ok, kD_err, vw_nil, th_nil, frz_nil, unS_fz, unS_no, unS_ow, List.map_cons, List.map_nil, List.set_cons_zero, List.set_cons_succ, startD, List.replicate, List.cons_append, List.nil_append, List.length_cons, List.length_nil, Nat.reduceAdd, Nat.reduceSub, dAdd_i, dSub_i, dOrd_i, bMin2_i, bMax2_i, tx0, tx1, tx2, tx3, lx0, lx1, comp_a, comp_k, comp_nil, comp_cons, comp_k1, comp_t, comp_f, comp_k3, comp_tt, pure_ok, wipe_nil, wipe_cons, en_a, en_k, enF_nil, enF_cons, zp_a, zp_l, zp_t, zpF_cons, zpF_nil, rg1_a, rg2_a, len_t, len_l, tuple_l, isi_ii, isi_bi, isi_tt, isi_ll, isi_ss, sl1, Bool.not_true, Bool.not_false, app_b, app_l, tix_a, tix_l, reto_a, reto_l, List.getElem?_cons_zero, List.getElem?_cons_succ, paro_a, paro_k, neg_i, rev_l, cut_l, told_a, told_ok, told_err, zp_m, compx_a, compx_k, tx_a, tx_k, q_flat_flat, q_flat_each, q_flat_base, q_flat_from, q_flat_packs, q_flat_gift, q_flat_least, q_flat_most, q_flat_off, q_each_flat, q_each_each, q_each_base, q_each_from, q_each_packs, q_each_gift, q_each_least, q_each_most, q_each_off, q_base_flat, q_base_each, q_base_base, q_base_from, q_base_packs, q_base_gift, q_base_least, q_base_most, q_base_off, q_from_flat, q_from_each, q_from_base, q_from_from, q_from_packs, q_from_gift, q_from_least, q_from_most, q_from_off, q_packs_flat, q_packs_each, q_packs_base, q_packs_from, q_packs_packs, q_packs_gift, q_packs_least, q_packs_most, q_packs_off, q_gift_flat, q_gift_each, q_gift_base, q_gift_from, q_gift_packs, q_gift_gift, q_gift_least, q_gift_most, q_gift_off, q_least_flat, q_least_each, q_least_base, q_least_from, q_least_packs, q_least_gift, q_least_least, q_least_most, q_least_off, q_most_flat, q_most_each, q_most_base, q_most_from, q_most_packs, q_most_gift, q_most_least, q_most_most, q_most_off, q_off_flat, q_off_each, q_off_base, q_off_from, q_off_packs, q_off_gift, q_off_least, q_off_most, q_off_off, in_flat, in_each, in_base, in_from, in_packs, in_gift, in_least, in_most, in_off, eo_flat, eo_each, eo_base, eo_from, eo_packs, eo_gift, eo_least, eo_most, eo_off, bd_flat, bd_each, bd_base, bd_from, bd_packs, bd_gift, bd_least, bd_most, bd_off, ne_flat, ne_each, ne_base, ne_from, ne_packs, ne_gift, ne_least, ne_most, ne_off, neI, nn1, nn2, nn3, all1, h1]
    rfl
  | base a b =>
    have h1 := cnt09 h.1
    have h2 := cnt09 h.2
    simp only [Rl.D, F_is_rule, b_is_rule, e_is_rule_1, seq_a, seq_nx, seq_rt, seq_ct, seq_bk, seq_err, if_a, if_t, if_f, asg_a, asg_k, own_a, own_k, lc_a, lc_k, ex_a, ex_k, rt_a, rt_k, op_a, op_k, op_k2, un_a, cons_a, cons_k, cons_k2, nil_a, c_a, tup_a, tup_k, lst_a, lst_k, bl_a, bl_k, eif_a, eif_t, eif_f, nt_a, nt_k, an_a, an_t, an_f, or_a, or_t, or_f, van_a, van_t, van_f, vor_a, vor_t, vor_f, vnt_a, vnt_k, ch_a, ch_ka, ch_kb, ch_t, ch_f, ch_k2, par_a, par_k, tg_a, tg_k, nx_k, b_nm, b_pr, b_tr, tr_k, e_nm, e_pr, for_a, for_k, call_a, any_a, items_l, items_t, idx_a, idx_k, idx_k2, no_a, some_a, some_k, sl_a, sl_k, sl_k1, sl_k2, get_a, get_k, get_k1, get_k2, run_a, run_rt, run_ro, run_nx, runo_a, runo_k, next_a, err_a, v0, v1, kD_ok, kD_err, vw_nil, th_nil, frz_nil, unS_fz, unS_no, unS_ow, List.map_cons, List.map_nil, List.set_cons_zero, List.set_cons_succ, startD, List.replicate, List.cons_append, List.nil_append, List.length_cons, List.length_nil, Nat.reduceAdd, Nat.reduceSub, dAdd_i, dSub_i, dOrd_i, bMin2_i, bMax2_i, tx0, tx1, tx2, tx3, lx0, lx1, comp_a, comp_k, comp_nil, comp_cons, comp_k1, comp_t, comp_f, comp_k3, comp_tt, pure_ok, wipe_nil, wipe_cons, en_a, en_k, enF_nil, enF_cons, zp_a, zp_l, zp_t, zpF_cons, zpF_nil, rg1_a, rg2_a, len_t, len_l, tuple_l, isi_ii, isi_bi, isi_tt, isi_ll, isi_ss, sl1, Bool.not_true, Bool.not_false, app_b, app_l, tix_a, tix_l, reto_a, reto_l, List.getElem?_cons_zero, List.getElem?_cons_succ, paro_a, paro_k, neg_i, rev_l, cut_l, told_a, told_ok, told_err, zp_m, compx_a, compx_k, tx_a, tx_k, q_flat_flat, q_flat_each, q_flat_base, q_flat_from, q_flat_packs, q_flat_gift, q_flat_least, q_flat_most, q_flat_off, q_each_flat, q_each_each, q_each_base, q_each_from, q_each_packs, q_each_gift, q_each_least, q_each_most, q_each_off, q_base_flat, q_base_each, q_base_base, q_base_from, q_base_packs, q_base_gift, q_base_least, q_base_most, q_base_off, q_from_flat, q_from_each, q_from_base, q_from_from, q_from_packs, q_from_gift, q_from_least, q_from_most, q_from_off, q_packs_flat, q_packs_each, q_packs_base, q_packs_from, q_packs_packs, q_packs_gift, q_packs_least, q_packs_most, q_packs_off, q_gift_flat, q_gift_each, q_gift_base, q_gift_from, q_gift_packs, q_gift_gift, q_gift_least, q_gift_most, q_gift_off, q_least_flat, q_least_each, q_least_base, q_least_from, q_least_packs, q_least_gift, q_least_least, q_least_most, q_least_off, q_most_flat, q_most_each, q_most_base, q_most_from, q_most_packs, q_most_gift, q_most_least, q_most_most, q_most_off, q_off_flat, q_off_each, q_off_base, q_off_from, q_off_packs, q_off_gift, q_off_least, q_off_most, q_off_off, in_flat, in_each, in_base, in_from, in_packs, in_gift, in_least, in_most, in_off, eo_flat, eo_each, eo_base, eo_from, eo_packs, eo_gift, eo_least, eo_most, eo_off, bd_flat, bd_each, bd_base, bd_from, bd_packs, bd_gift, bd_least, bd_most, bd_off, ne_flat, ne_each, ne_base, ne_from, ne_packs, ne_gift, ne_least, ne_most, ne_off, neI, nn1, nn2, nn3, all2, h1, h2]
    rfl
  | frm c n d =>
    have h1 := cnt09 h.1
    have h2 := cnt15 h.2.1
    have h3 := cnt09 h.2.2
    simp only [Rl.D, F_is_rule, b_is_rule, e_is_rule_1, seq_a, seq_nx, seq_rt, seq_ct, seq_bk, seq_err, if_a, if_t, if_f, asg_a, asg_k, own_a, own_k, lc_a, lc_k, ex_a, ex_k, rt_a, rt_k, op_a, op_k, op_k2, un_a, cons_a, cons_k, cons_k2, nil_a, c_a, tup_a, tup_k, lst_a, lst_k, bl_a, bl_k, eif_a, eif_t, eif_f, nt_a, nt_k, an_a, an_t, an_f, or_a, or_t, or_f, van_a, van_t, van_f, vor_a, vor_t, vor_f, vnt_a, vnt_k, ch_a, ch_ka, ch_kb, ch_t, ch_f, ch_k2, par_a, par_k, tg_a, tg_k, nx_k, b_nm, b_pr, b_tr, tr_k, e_nm, e_pr, for_a, for_k, call_a, any_a, items_l, items_t, idx_a, idx_k, idx_k2, no_a, some_a, some_k, sl_a, sl_k, sl_k1, sl_k2, get_a, get_k, get_k1, get_k2, run_a, run_rt, run_ro, run_nx, runo_a, runo_k, next_a, err_a, v0, v1, kD_ok, kD_err, vw_nil, th_nil, frz_nil, unS_fz, unS_no, unS_ow, List.map_cons, List.map_nil, List.set_cons_zero, List.set_cons_succ, startD, List.replicate, List.cons_append, List.nil_append, List.length_cons, List.length_nil, Nat.reduceAdd, Nat.reduceSub, dAdd_i, dSub_i, dOrd_i, bMin2_i, bMax2_i, tx0, tx1, tx2, tx3, lx0, lx1, comp_a, comp_k, comp_nil, comp_cons, comp_k1, comp_t, comp_f, comp_k3, comp_tt, pure_ok, wipe_nil, wipe_cons, en_a, en_k, enF_nil, enF_cons, zp_a, zp_l, zp_t, zpF_cons, zpF_nil, rg1_a, rg2_a, len_t, len_l, tuple_l, isi_ii, isi_bi, isi_tt, isi_ll, isi_ss, sl1, Bool.not_true, Bool.not_false, app_b, app_l, tix_a, tix_l, reto_a, reto_l, List.getElem?_cons_zero, List.getElem?_cons_succ, paro_a, paro_k, neg_i, rev_l, cut_l, told_a, told_ok, told_err, zp_m, compx_a, compx_k, tx_a, tx_k, q_flat_flat, q_flat_each, q_flat_base, q_flat_from, q_flat_packs, q_flat_gift, q_flat_least, q_flat_most, q_flat_off, q_each_flat, q_each_each, q_each_base, q_each_from, q_each_packs, q_each_gift, q_each_least, q_each_most, q_each_off, q_base_flat, q_base_each, q_base_base, q_base_from, q_base_packs, q_base_gift, q_base_least, q_base_most, q_base_off, q_from_flat, q_from_each, q_from_base, q_from_from, q_from_packs, q_from_gift, q_from_least, q_from_most, q_from_off, q_packs_flat, q_packs_each, q_packs_base, q_packs_from, q_packs_packs, q_packs_gift, q_packs_least, q_packs_most, q_packs_off, q_gift_flat, q_gift_each, q_gift_base, q_gift_from, q_gift_packs, q_gift_gift, q_gift_least, q_gift_most, q_gift_off, q_least_flat, q_least_each, q_least_base, q_least_from, q_least_packs, q_least_gift, q_least_least, q_least_most, q_least_off, q_most_flat, q_most_each, q_most_base, q_most_from, q_most_packs, q_most_gift, q_most_least, q_most_most, q_most_off, q_off_flat, q_off_each, q_off_base, q_off_from, q_off_packs, q_off_gift, q_off_least, q_off_most, q_off_off, in_flat, in_each, in_base, in_from, in_packs, in_gift, in_least, in_most, in_off, eo_flat, eo_each, eo_base, eo_from, eo_packs, eo_gift, eo_least, eo_most, eo_off, bd_flat, bd_each, bd_base, bd_from, bd_packs, bd_gift, bd_least, bd_most, bd_off, ne_flat, ne_each, ne_base, ne_from, ne_packs, ne_gift, ne_least, ne_most, ne_off, neI, nn1, nn2, nn3, all3, h1, h2, h3]
    rfl
  | packs c n =>
    have h1 := cnt09 h.1
    have h2 := cnt15 h.2
    simp only [Rl.D, F_is_rule, b_is_rule, e_is_rule_1, seq_a, seq_nx, seq_rt, seq_ct, seq_bk, seq_err, if_a, if_t, if_f, asg_a, asg_k, own_a, own_k, lc_a, lc_k, ex_a, ex_k, rt_a, rt_k, op_a, op_k, op_k2, un_a, cons_a, cons_k, cons_k2, nil_a, c_a, tup_a, tup_k, lst_a, lst_k, bl_a, bl_k, eif_a, eif_t, eif_f, nt_a, nt_k, an_a, an_t, an_f, or_a, or_t, or_f, van_a, van_t, van_f, vor_a, vor_t, vor_f, vnt_a, vnt_k, ch_a, ch_ka, ch_kb, ch_t, ch_f, ch_k2, par_a, par_k, tg_a, tg_k, nx_k, b_nm, b_pr, b_tr, tr_k, e_nm, e_pr, for_a, for_k, call_a, any_a, items_l, items_t, idx_a, idx_k, idx_k2, no_a, some_a, some_k, sl_a, sl_k, sl_k1, sl_k2, get_a, get_k, get_k1, get_k2, run_a, run_rt, run_ro, run_nx, runo_a, runo_k, next_a, err_a, v0, v1, kD_ok, kD_err, vw_nil, th_nil, frz_nil, unS_fz, unS_no, unS_ow, List.map_cons, List.map_nil, List.set_cons_zero, List.set_cons_succ, startD, List.replicate, List.cons_append, List.nil_append, List.length_cons, List.length_nil, Nat.reduceAdd, Nat.reduceSub, dAdd_i, dSub_i, dOrd_i, bMin2_i, bMax2_i, tx0, tx1, tx2, tx3, lx0, lx1, comp_a, comp_k, comp_nil, comp_cons, comp_k1, comp_t, comp_f, comp_k3, comp_tt, pure_ok, wipe_nil, wipe_cons, en_a, en_k, enF_nil, enF_cons, zp_a, zp_l, zp_t, zpF_cons, zpF_nil, rg1_a, rg2_a, len_t, len_l, tuple_l, isi_ii, isi_bi, isi_tt, isi_ll, isi_ss, sl1, Bool.not_true, Bool.not_false, app_b, app_l, tix_a, tix_l, reto_a, reto_l, List.getElem?_cons_zero, List.getElem?_cons_succ, paro_a, paro_k, neg_i, rev_l, cut_l, told_a, told_ok, told_err, zp_m, compx_a, compx_k, tx_a, tx_k, q_flat_flat, q_flat_each, q_flat_base, q_flat_from, q_flat_packs, q_flat_gift, q_flat_least, q_flat_most, q_flat_off, q_each_flat, q_each_each, q_each_base, q_each_from, q_each_packs, q_each_gift, q_each_least, q_each_most, q_each_off, q_base_flat, q_base_each, q_base_base, q_base_from, q_base_packs, q_base_gift, q_base_least, q_base_most, q_base_off, q_from_flat, q_from_each, q_from_base, q_from_from, q_from_packs, q_from_gift, q_from_least, q_from_most, q_from_off, q_packs_flat, q_packs_each, q_packs_base, q_packs_from, q_packs_packs, q_packs_gift, q_packs_least, q_packs_most, q_packs_off, q_gift_flat, q_gift_each, q_gift_base, q_gift_from, q_gift_packs, q_gift_gift, q_gift_least, q_gift_most, q_gift_off, q_least_flat, q_least_each, q_least_base, q_least_from, q_least_packs, q_least_gift, q_least_least, q_least_most, q_least_off, q_most_flat, q_most_each, q_most_base, q_most_from, q_most_packs, q_most_gift, q_most_least, q_most_most, q_most_off, q_off_flat, q_off_each, q_off_base, q_off_from, q_off_packs, q_off_gift, q_off_least, q_off_most, q_off_off, in_flat, in_each, in_base, in_from, in_packs, in_gift, in_least, in_most, in_off, eo_flat, eo_each, eo_base, eo_from, eo_packs, eo_gift, eo_least, eo_most, eo_off, bd_flat, bd_each, bd_base, bd_from, bd_packs, bd_gift, bd_least, bd_most, bd_off, ne_flat, ne_each, ne_base, ne_from, ne_packs, ne_gift, ne_least, ne_most, ne_off, neI, nn1, nn2, nn3, all2, h1, h2]
    rfl
  | gift c n =>
    have h1 := cnt09 h.1
    have h2 := cnt15 h.2
    simp only [Rl.D, F_is_rule, b_is_rule, e_is_rule_1, seq_a, seq_nx, seq_rt, seq_ct, seq_bk, seq_err, if_a, if_t, if_f, asg_a, asg_k, own_a, own_k, lc_a, lc_k, ex_a, ex_k, rt_a, rt_k, op_a, op_k, op_k2, un_a, cons_a, cons_k, cons_k2, nil_a, c_a, tup_a, tup_k, lst_a, lst_k, bl_a, bl_k, eif_a, eif_t, eif_f, nt_a, nt_k, an_a, an_t, an_f, or_a, or_t, or_f, van_a, van_t, van_f, vor_a, vor_t, vor_f, vnt_a, vnt_k, ch_a, ch_ka, ch_kb, ch_t, ch_f, ch_k2, par_a, par_k, tg_a, tg_k, nx_k, b_nm, b_pr, b_tr, tr_k, e_nm, e_pr, for_a, for_k, call_a, any_a, items_l, items_t, idx_a, idx_k, idx_k2, no_a, some_a, some_k, sl_a, sl_k, sl_k1, sl_k2, get_a, get_k, get_k1, get_k2, run_a, run_rt, run_ro, run_nx, runo_a, runo_k, next_a, err_a, v0, v1, kD_ok, kD_err, vw_nil, th_nil, frz_nil, unS_fz, unS_no, unS_ow, List.map_cons, List.map_nil, List.set_cons_zero, List.set_cons_succ, startD, List.replicate, List.cons_append, List.nil_append, List.length_cons, List.length_nil, Nat.reduceAdd, Nat.reduceSub, dAdd_i, dSub_i, dOrd_i, bMin2_i, bMax2_i, tx0, tx1, tx2, tx3, lx0, lx1, comp_a, comp_k, comp_nil, comp_cons, comp_k1, comp_t, comp_f, comp_k3, comp_tt, pure_ok, wipe_nil, wipe_cons, en_a, en_k, enF_nil, enF_cons, zp_a, zp_l, zp_t, zpF_cons, zpF_nil, rg1_a, rg2_a, len_t, len_l, tuple_l, isi_ii, isi_bi, isi_tt, isi_ll, isi_ss, sl1, Bool.not_true, Bool.not_false, app_b, app_l, tix_a, tix_l, reto_a, reto_l, List.getElem?_cons_zero, List.getElem?_cons_succ, paro_a, paro_k, neg_i, rev_l, cut_l, told_a, told_ok, told_err, zp_m, compx_a, compx_k, tx_a, tx_k, q_flat_flat, q_flat_each, q_flat_base, q_flat_from, q_flat_packs, q_flat_gift, q_flat_least, q_flat_most, q_flat_off, q_each_flat, q_each_each, q_each_base, q_each_from, q_each_packs, q_each_gift, q_each_least, q_each_most, q_each_off, q_base_flat, q_base_each, q_base_base, q_base_from, q_base_packs, q_base_gift, q_base_least, q_base_most, q_base_off, q_from_flat, q_from_each, q_from_base, q_from_from, q_from_packs, q_from_gift, q_from_least, q_from_most, q_from_off, q_packs_flat, q_packs_each, q_packs_base, q_packs_from, q_packs_packs, q_packs_gift, q_packs_least, q_packs_most, q_packs_off, q_gift_flat, q_gift_each, q_gift_base, q_gift_from, q_gift_packs, q_gift_gift, q_gift_least, q_gift_most, q_gift_off, q_least_flat, q_least_each, q_least_base, q_least_from, q_least_packs, q_least_gift, q_least_least, q_least_most, q_least_off, q_most_flat, q_most_each, q_most_base, q_most_from, q_most_packs, q_most_gift, q_most_least, q_most_most, q_most_off, q_off_flat, q_off_each, q_off_base, q_off_from, q_off_packs, q_off_gift, q_off_least, q_off_most, q_off_off, in_flat, in_each, in_base, in_from, in_packs, in_gift, in_least, in_most, in_off, eo_flat, eo_each, eo_base, eo_from, eo_packs, eo_gift, eo_least, eo_most, eo_off, bd_flat, bd_each, bd_base, bd_from, bd_packs, bd_gift, bd_least, bd_most, bd_off, ne_flat, ne_each, ne_base, ne_from, ne_packs, ne_gift, ne_least, ne_most, ne_off, neI, nn1, nn2, nn3, all2, h1, h2]
    rfl
  | least a b =>
    have h1 := cnt09 h.1
    have h2 := cnt09 h.2
    simp only [Rl.D, F_is_rule, b_is_rule, e_is_rule_1, seq_a, seq_nx, seq_rt, seq_ct, seq_bk, seq_err, if_a, if_t, if_f, asg_a, asg_k, own_a, own_k, lc_a, lc_k, ex_a, ex_k, rt_a, rt_k, op_a, op_k, op_k2, un_a, cons_a, cons_k, cons_k2, nil_a, c_a, tup_a, tup_k, lst_a, lst_k, bl_a, bl_k, eif_a, eif_t, eif_f, nt_a, nt_k, an_a, an_t, an_f, or_a, or_t, or_f, van_a, van_t, van_f, vor_a, vor_t, vor_f, vnt_a, vnt_k, ch_a, ch_ka, ch_kb, ch_t, ch_f, ch_k2, par_a, par_k, tg_a, tg_k, nx_k, b_nm, b_pr, b_tr, tr_k, e_nm, e_pr, for_a, for_k, call_a, any_a, items_l, items_t, idx_a, idx_k, idx_k2, no_a, some_a, some_k, sl_a, sl_k, sl_k1, sl_k2, get_a, get_k, get_k1, get_k2, run_a, run_rt, run_ro, run_nx, runo_a, runo_k, next_a, err_a, v0, v1, kD_ok, kD_err, vw_nil, th_nil, frz_nil, unS_fz, unS_no, unS_ow, List.map_cons, List.map_nil, List.set_cons_zero, List.set_cons_succ, startD, List.replicate, List.cons_append, List.nil_append, List.length_cons, List.length_nil, Nat.reduceAdd, Nat.reduceSub, dAdd_i, dSub_i, dOrd_i, bMin2_i, bMax2_i, tx0, tx1, tx2, tx3, lx0, lx1, comp_a, comp_k, comp_nil, comp_cons, comp_k1, comp_t, comp_f, comp_k3, comp_tt, pure_ok, wipe_nil, wipe_cons, en_a, en_k, enF_nil, enF_cons, zp_a, zp_l, zp_t, zpF_cons, zpF_nil, rg1_a, rg2_a, len_t, len_l, tuple_l, isi_ii, isi_bi, isi_tt, isi_ll, isi_ss, sl1, Bool.not_true, Bool.not_false, app_b, app_l, tix_a, tix_l, reto_a, reto_l, List.getElem?_cons_zero, List.getElem?_cons_succ, paro_a, paro_k, neg_i, rev_l, cut_l, told_a, told_ok, told_err, zp_m, compx_a, compx_k, tx_a, tx_k, q_flat_flat, q_flat_each, q_flat_base, q_flat_from, q_flat_packs, q_flat_gift, q_flat_least, q_flat_most, q_flat_off, q_each_flat, q_each_each, q_each_base, q_each_from, q_each_packs, q_each_gift, q_each_least, q_each_most, q_each_off, q_base_flat, q_base_each, q_base_base, q_base_from, q_base_packs, q_base_gift, q_base_least, q_base_most, q_base_off, q_from_flat, q_from_each, q_from_base, q_from_from, q_from_packs, q_from_gift, q_from_least, q_from_most, q_from_off, q_packs_flat, q_packs_each, q_packs_base, q_packs_from, q_packs_packs, q_packs_gift, q_packs_least, q_packs_most, q_packs_off, q_gift_flat, q_gift_each, q_gift_base, q_gift_from, q_gift_packs, q_gift_gift, q_gift_least, q_gift_most, q_gift_off, q_least_flat, q_least_each, q_least_base, q_least_from, q_least_packs, q_least_gift, q_least_least, q_least_most, q_least_off, q_most_flat, q_most_each, q_most_base, q_most_from, q_most_packs, q_most_gift, q_most_least, q_most_most, q_most_off, q_off_flat, q_off_each, q_off_base, q_off_from, q_off_packs, q_off_gift, q_off_least, q_off_most, q_off_off, in_flat, in_each, in_base, in_from, in_packs, in_gift, in_least, in_most, in_off, eo_flat, eo_each, eo_base, eo_from, eo_packs, eo_gift, eo_least, eo_most, eo_off, bd_flat, bd_each, bd_base, bd_from, bd_packs, bd_gift, bd_least, bd_most, bd_off, ne_flat, ne_each, ne_base, ne_from, ne_packs, ne_gift, ne_least, ne_most, ne_off, neI, nn1, nn2, nn3, all2, h1, h2]
    rfl
  | most a b =>
    have h1 := cnt09 h.1
    have h2 := cnt09 h.2
    simp only [Rl.D, F_is_rule, b_is_rule, e_is_rule_1, seq_a, seq_nx, seq_rt, seq_ct, seq_bk, seq_err, if_a, if_t, if_f, asg_a, asg_k, own_a, own_k, lc_a, lc_k, ex_a, ex_k, rt_a, rt_k, op_a, op_k, op_k2, un_a, cons_a, cons_k, cons_k2, nil_a, c_a, tup_a, tup_k, lst_a, lst_k, bl_a, bl_k, eif_a, eif_t, eif_f, nt_a, nt_k, an_a, an_t, an_f, or_a, or_t, or_f, van_a, van_t, van_f, vor_a, vor_t, vor_f, vnt_a, vnt_k, ch_a, ch_ka, ch_kb, ch_t, ch_f, ch_k2, par_a, par_k, tg_a, tg_k, nx_k, b_nm, b_pr, b_tr, tr_k, e_nm, e_pr, for_a, for_k, call_a, any_a, items_l, items_t, idx_a, idx_k, idx_k2, no_a, some_a, some_k, sl_a, sl_k, sl_k1, sl_k2, get_a, get_k, get_k1, get_k2, run_a, run_rt, run_ro, run_nx, runo_a, runo_k, next_a, err_a, v0, v1, kD_ok, kD_err, vw_nil, th_nil, frz_nil, unS_fz, unS_no, unS_ow, List.map_cons, List.map_nil, List.set_cons_zero, List.set_cons_succ, startD, List.replicate, List.cons_append, List.nil_append, List.length_cons, List.length_nil, Nat.reduceAdd, Nat.reduceSub, dAdd_i, dSub_i, dOrd_i, bMin2_i, bMax2_i, tx0, tx1, tx2, tx3, lx0, lx1, comp_a, comp_k, comp_nil, comp_cons, comp_k1, comp_t, comp_f, comp_k3, comp_tt, pure_ok, wipe_nil, wipe_cons, en_a, en_k, enF_nil, enF_cons, zp_a, zp_l, zp_t, zpF_cons, zpF_nil, rg1_a, rg2_a, len_t, len_l, tuple_l, isi_ii, isi_bi, isi_tt, isi_ll, isi_ss, sl1, Bool.not_true, Bool.not_false, app_b, app_l, tix_a, tix_l, reto_a, reto_l, List.getElem?_cons_zero, List.getElem?_cons_succ, paro_a, paro_k, neg_i, rev_l, cut_l, told_a, told_ok, told_err, zp_m, compx_a, compx_k, tx_a, tx_k, q_flat_flat, q_flat_each, q_flat_base, q_flat_from, q_flat_packs, q_flat_gift, q_flat_least, q_flat_most, q_flat_off, q_each_flat, q_each_each, q_each_base, q_each_from, q_each_packs, q_each_gift, q_each_least, q_each_most, q_each_off, q_base_flat, q_base_each, q_base_base, q_base_from, q_base_packs, q_base_gift, q_base_least, q_base_most, q_base_off, q_from_flat, q_from_each, q_from_base, q_from_from, q_from_packs, q_from_gift, q_from_least, q_from_most, q_from_off, q_packs_flat, q_packs_each, q_packs_base, q_packs_from, q_packs_packs, q_packs_gift, q_packs_least, q_packs_most, q_packs_off, q_gift_flat, q_gift_each, q_gift_base, q_gift_from, q_gift_packs, q_gift_gift, q_gift_least, q_gift_most, q_gift_off, q_least_flat, q_least_each, q_least_base, q_least_from, q_least_packs, q_least_gift, q_least_least, q_least_most, q_least_off, q_most_flat, q_most_each, q_most_base, q_most_from, q_most_packs, q_most_gift, q_most_least, q_most_most, q_most_off, q_off_flat, q_off_each, q_off_base, q_off_from, q_off_packs, q_off_gift, q_off_least, q_off_most, q_off_off, in_flat, in_each, in_base, in_from, in_packs, in_gift, in_least, in_most, in_off, eo_flat, eo_each, eo_base, eo_from, eo_packs, eo_gift, eo_least, eo_most, eo_off, bd_flat, bd_each, bd_base, bd_from, bd_packs, bd_gift, bd_least, bd_most, bd_off, ne_flat, ne_each, ne_base, ne_from, ne_packs, ne_gift, ne_least, ne_most, ne_off, neI, nn1, nn2, nn3, all2, h1, h2]
    rfl
  | off c n d =>
    have h1 := cnt09 h.1
    have h2 := cnt15 h.2.1
    have h3 := cnt09 h.2.2
    simp only [Rl.D, F_is_rule, b_is_rule, e_is_rule_1, seq_a, seq_nx, seq_rt, seq_ct, seq_bk, seq_err, if_a, if_t, if_f, asg_a, asg_k, own_a, own_k, lc_a, lc_k, ex_a, ex_k, rt_a, rt_k, op_a, op_k, op_k2, un_a, cons_a, cons_k, cons_k2, nil_a, c_a, tup_a, tup_k, lst_a, lst_k, bl_a, bl_k, eif_a, eif_t, eif_f, nt_a, nt_k, an_a, an_t, an_f, or_a, or_t, or_f, van_a, van_t, van_f, vor_a, vor_t, vor_f, vnt_a, vnt_k, ch_a, ch_ka, ch_kb, ch_t, ch_f, ch_k2, par_a, par_k, tg_a, tg_k, nx_k, b_nm, b_pr, b_tr, tr_k, e_nm, e_pr, for_a, for_k, call_a, any_a, items_l, items_t, idx_a, idx_k, idx_k2, no_a, some_a, some_k, sl_a, sl_k, sl_k1, sl_k2, get_a, get_k, get_k1, get_k2, run_a, run_rt, run_ro, run_nx, runo_a, runo_k, next_a, err_a, v0, v1, kD_ok, kD_err, vw_nil, th_nil, frz_nil, unS_fz, unS_no, unS_ow, List.map_cons, List.map_nil, List.set_cons_zero, List.set_cons_succ, startD, List.replicate, List.cons_append, List.nil_append, List.length_cons, List.length_nil, Nat.reduceAdd, Nat.reduceSub, dAdd_i, dSub_i, dOrd_i, bMin2_i, bMax2_i, tx0, tx1, tx2, tx3, lx0, lx1, comp_a, comp_k, comp_nil, comp_cons, comp_k1, comp_t, comp_f, comp_k3, comp_tt, pure_ok, wipe_nil, wipe_cons, en_a, en_k, enF_nil, enF_cons, zp_a, zp_l, zp_t, zpF_cons, zpF_nil, rg1_a, rg2_a, len_t, len_l, tuple_l, isi_ii, isi_bi, isi_tt, isi_ll, isi_ss, sl1, Bool.not_true, Bool.not_false, app_b, app_l, tix_a, tix_l, reto_a, reto_l, List.getElem?_cons_zero, List.getElem?_cons_succ, paro_a, paro_k, neg_i, rev_l, cut_l, told_a, told_ok, told_err, zp_m, compx_a, compx_k, tx_a, tx_k, q_flat_flat, q_flat_each, q_flat_base, q_flat_from, q_flat_packs, q_flat_gift, q_flat_least, q_flat_most, q_flat_off, q_each_flat, q_each_each, q_each_base, q_each_from, q_each_packs, q_each_gift, q_each_least, q_each_most, q_each_off, q_base_flat, q_base_each, q_base_base, q_base_from, q_base_packs, q_base_gift, q_base_least, q_base_most, q_base_off, q_from_flat, q_from_each, q_from_base, q_from_from, q_from_packs, q_from_gift, q_from_least, q_from_most, q_from_off, q_packs_flat, q_packs_each, q_packs_base, q_packs_from, q_packs_packs, q_packs_gift, q_packs_least, q_packs_most, q_packs_off, q_gift_flat, q_gift_each, q_gift_base, q_gift_from, q_gift_packs, q_gift_gift, q_gift_least, q_gift_most, q_gift_off, q_least_flat, q_least_each, q_least_base, q_least_from, q_least_packs, q_least_gift, q_least_least, q_least_most, q_least_off, q_most_flat, q_most_each, q_most_base, q_most_from, q_most_packs, q_most_gift, q_most_least, q_most_most, q_most_off, q_off_flat, q_off_each, q_off_base, q_off_from, q_off_packs, q_off_gift, q_off_least, q_off_most, q_off_off, in_flat, in_each, in_base, in_from, in_packs, in_gift, in_least, in_most, in_off, eo_flat, eo_each, eo_base, eo_from, eo_packs, eo_gift, eo_least, eo_most, eo_off, bd_flat, bd_each, bd_base, bd_from, bd_packs, bd_gift, bd_least, bd_most, bd_off, ne_flat, ne_each, ne_base, ne_from, ne_packs, ne_gift, ne_least, ne_most, ne_off, neI, nn1, nn2, nn3, all3, h1, h2, h3]
    rfl
end DL.K30
set_option Elab.async false
set_option linter.all false
set_option maxRecDepth 100000
set_option maxHeartbeats 4000000
/-! P0c: is_rule on whatever is shaped. -/
namespace DL.K30
open PySem PySem.Spec PyProof.Rows L2 RZ DL
def cntD (d : D) (lo hi : Int) : Bool := match d with
  | .int i => decide (lo ≤ i ∧ i ≤ hi)
  | _ => false
theorem isi_int_str (z : Str) : dIsi "int" (.str z) = .ok (.bool false) := by kernel_rfl
theorem isi_int_lst (l : List D) : dIsi "int" (.list l) = .ok (.bool false) := by kernel_rfl
theorem isi_int_tup (l : List D) : dIsi "int" (.tuple l) = .ok (.bool false) := by kernel_rfl
theorem isi_int_dic (l : List (D × D)) (h : isFnE l = false) : dIsi "int" (.dict l) = .ok (.bool false) := by
  show (if isFnE l = true then R.bad else _) = _
  rw [h]
  kernel_rfl
theorem isi_tup_none : dIsi "tuple" .none = .ok (.bool false) := by kernel_rfl
theorem isi_tup_bool (b : Bool) : dIsi "tuple" (.bool b) = .ok (.bool false) := by cases b <;> kernel_rfl
theorem isi_tup_int (i : Int) : dIsi "tuple" (.int i) = .ok (.bool false) := by kernel_rfl
theorem isi_tup_str (z : Str) : dIsi "tuple" (.str z) = .ok (.bool false) := by kernel_rfl
theorem isi_tup_lst (l : List D) : dIsi "tuple" (.list l) = .ok (.bool false) := by kernel_rfl
theorem isi_tup_dic (l : List (D × D)) (h : isFnE l = false) : dIsi "tuple" (.dict l) = .ok (.bool false) := by
  show (if isFnE l = true then R.bad else _) = _
  rw [h]
  kernel_rfl
theorem isi_str_none : dIsi "str" .none = .ok (.bool false) := by kernel_rfl
theorem isi_str_bool (b : Bool) : dIsi "str" (.bool b) = .ok (.bool false) := by cases b <;> kernel_rfl
theorem isi_str_int (i : Int) : dIsi "str" (.int i) = .ok (.bool false) := by kernel_rfl
theorem isi_str_lst (l : List D) : dIsi "str" (.list l) = .ok (.bool false) := by kernel_rfl
theorem isi_str_tup (l : List D) : dIsi "str" (.tuple l) = .ok (.bool false) := by kernel_rfl
theorem isi_str_dic (l : List (D × D)) (h : isFnE l = false) : dIsi "str" (.dict l) = .ok (.bool false) := by
  show (if isFnE l = true then R.bad else _) = _
  rw [h]
  kernel_rfl
theorem is_count_i2 (x lo hi : Int) : F_is_count [.int x, .int lo, .int hi] = .ok (.bool (decide (lo ≤ x ∧ x ≤ hi))) := by
  rw [is_count_i]
  congr 2
  unfold pLe
  by_cases h1 : lo ≤ x
  · by_cases h2 : x ≤ hi
    · simp [h1, h2]
    · simp [h1, h2]
  · simp [h1]
theorem cnt_all (d : D) (lo hi : Int) (hn : isFn d = false) : F_is_count [d, .int lo, .int hi] = .ok (.bool (cntD d lo hi)) := by
  cases d with
  | int i => exact is_count_i2 i lo hi
  | none =>
    simp only [F_is_count, b_is_count, seq_a, seq_nx, seq_rt, seq_ct, seq_bk, seq_err, if_a, if_t, if_f, asg_a, asg_k, own_a, own_k, lc_a, lc_k, ex_a, ex_k, rt_a, rt_k, op_a, op_k, op_k2, un_a, cons_a, cons_k, cons_k2, nil_a, c_a, tup_a, tup_k, lst_a, lst_k, bl_a, bl_k, eif_a, eif_t, eif_f, nt_a, nt_k, an_a, an_t, an_f, or_a, or_t, or_f, van_a, van_t, van_f, vor_a, vor_t, vor_f, vnt_a, vnt_k, ch_a, ch_ka, ch_kb, ch_t, ch_f, ch_k2, par_a, par_k, tg_a, tg_k, nx_k, b_nm, b_pr, b_tr, tr_k, e_nm, e_pr, for_a, for_k, call_a, any_a, items_l, items_t, idx_a, idx_k, idx_k2, no_a, some_a, some_k, sl_a, sl_k, sl_k1, sl_k2, get_a, get_k, get_k1, get_k2, run_a, run_rt, run_ro, run_nx, runo_a, runo_k, next_a, err_a, v0, v1, kD_ok, kD_err, vw_nil, th_nil, frz_nil, unS_fz, unS_no, unS_ow, List.map_cons, List.map_nil, List.set_cons_zero, List.set_cons_succ, startD, List.replicate, List.cons_append, List.nil_append, List.length_cons, List.length_nil, Nat.reduceAdd, Nat.reduceSub, dAdd_i, dSub_i, dOrd_i, bMin2_i, bMax2_i, tx0, tx1, tx2, tx3, lx0, lx1, comp_a, comp_k, comp_nil, comp_cons, comp_k1, comp_t, comp_f, comp_k3, comp_tt, pure_ok, wipe_nil, wipe_cons, en_a, en_k, enF_nil, enF_cons, zp_a, zp_l, zp_t, zpF_cons, zpF_nil, rg1_a, rg2_a, len_t, len_l, tuple_l, isi_ii, isi_bi, isi_tt, isi_ll, isi_ss, sl1, Bool.not_true, Bool.not_false, app_b, app_l, tix_a, tix_l, reto_a, reto_l, List.getElem?_cons_zero, List.getElem?_cons_succ, paro_a, paro_k, neg_i, rev_l, cut_l, told_a, told_ok, told_err, zp_m, compx_a, compx_k, tx_a, tx_k, isi_int_none]
    rfl
  | bool b =>
    simp only [F_is_count, b_is_count, seq_a, seq_nx, seq_rt, seq_ct, seq_bk, seq_err, if_a, if_t, if_f, asg_a, asg_k, own_a, own_k, lc_a, lc_k, ex_a, ex_k, rt_a, rt_k, op_a, op_k, op_k2, un_a, cons_a, cons_k, cons_k2, nil_a, c_a, tup_a, tup_k, lst_a, lst_k, bl_a, bl_k, eif_a, eif_t, eif_f, nt_a, nt_k, an_a, an_t, an_f, or_a, or_t, or_f, van_a, van_t, van_f, vor_a, vor_t, vor_f, vnt_a, vnt_k, ch_a, ch_ka, ch_kb, ch_t, ch_f, ch_k2, par_a, par_k, tg_a, tg_k, nx_k, b_nm, b_pr, b_tr, tr_k, e_nm, e_pr, for_a, for_k, call_a, any_a, items_l, items_t, idx_a, idx_k, idx_k2, no_a, some_a, some_k, sl_a, sl_k, sl_k1, sl_k2, get_a, get_k, get_k1, get_k2, run_a, run_rt, run_ro, run_nx, runo_a, runo_k, next_a, err_a, v0, v1, kD_ok, kD_err, vw_nil, th_nil, frz_nil, unS_fz, unS_no, unS_ow, List.map_cons, List.map_nil, List.set_cons_zero, List.set_cons_succ, startD, List.replicate, List.cons_append, List.nil_append, List.length_cons, List.length_nil, Nat.reduceAdd, Nat.reduceSub, dAdd_i, dSub_i, dOrd_i, bMin2_i, bMax2_i, tx0, tx1, tx2, tx3, lx0, lx1, comp_a, comp_k, comp_nil, comp_cons, comp_k1, comp_t, comp_f, comp_k3, comp_tt, pure_ok, wipe_nil, wipe_cons, en_a, en_k, enF_nil, enF_cons, zp_a, zp_l, zp_t, zpF_cons, zpF_nil, rg1_a, rg2_a, len_t, len_l, tuple_l, isi_ii, isi_bi, isi_tt, isi_ll, isi_ss, sl1, Bool.not_true, Bool.not_false, app_b, app_l, tix_a, tix_l, reto_a, reto_l, List.getElem?_cons_zero, List.getElem?_cons_succ, paro_a, paro_k, neg_i, rev_l, cut_l, told_a, told_ok, told_err, zp_m, compx_a, compx_k, tx_a, tx_k, isi_int_bool, isi_bool_bool]
    rfl
  | str z =>
    simp only [F_is_count, b_is_count, seq_a, seq_nx, seq_rt, seq_ct, seq_bk, seq_err, if_a, if_t, if_f, asg_a, asg_k, own_a, own_k, lc_a, lc_k, ex_a, ex_k, rt_a, rt_k, op_a, op_k, op_k2, un_a, cons_a, cons_k, cons_k2, nil_a, c_a, tup_a, tup_k, lst_a, lst_k, bl_a, bl_k, eif_a, eif_t, eif_f, nt_a, nt_k, an_a, an_t, an_f, or_a, or_t, or_f, van_a, van_t, van_f, vor_a, vor_t, vor_f, vnt_a, vnt_k, ch_a, ch_ka, ch_kb, ch_t, ch_f, ch_k2, par_a, par_k, tg_a, tg_k, nx_k, b_nm, b_pr, b_tr, tr_k, e_nm, e_pr, for_a, for_k, call_a, any_a, items_l, items_t, idx_a, idx_k, idx_k2, no_a, some_a, some_k, sl_a, sl_k, sl_k1, sl_k2, get_a, get_k, get_k1, get_k2, run_a, run_rt, run_ro, run_nx, runo_a, runo_k, next_a, err_a, v0, v1, kD_ok, kD_err, vw_nil, th_nil, frz_nil, unS_fz, unS_no, unS_ow, List.map_cons, List.map_nil, List.set_cons_zero, List.set_cons_succ, startD, List.replicate, List.cons_append, List.nil_append, List.length_cons, List.length_nil, Nat.reduceAdd, Nat.reduceSub, dAdd_i, dSub_i, dOrd_i, bMin2_i, bMax2_i, tx0, tx1, tx2, tx3, lx0, lx1, comp_a, comp_k, comp_nil, comp_cons, comp_k1, comp_t, comp_f, comp_k3, comp_tt, pure_ok, wipe_nil, wipe_cons, en_a, en_k, enF_nil, enF_cons, zp_a, zp_l, zp_t, zpF_cons, zpF_nil, rg1_a, rg2_a, len_t, len_l, tuple_l, isi_ii, isi_bi, isi_tt, isi_ll, isi_ss, sl1, Bool.not_true, Bool.not_false, app_b, app_l, tix_a, tix_l, reto_a, reto_l, List.getElem?_cons_zero, List.getElem?_cons_succ, paro_a, paro_k, neg_i, rev_l, cut_l, told_a, told_ok, told_err, zp_m, compx_a, compx_k, tx_a, tx_k, isi_int_str]
    rfl
  | list l =>
    simp only [F_is_count, b_is_count, seq_a, seq_nx, seq_rt, seq_ct, seq_bk, seq_err, if_a, if_t, if_f, asg_a, asg_k, own_a, own_k, lc_a, lc_k, ex_a, ex_k, rt_a, rt_k, op_a, op_k, op_k2, un_a, cons_a, cons_k, cons_k2, nil_a, c_a, tup_a, tup_k, lst_a, lst_k, bl_a, bl_k, eif_a, eif_t, eif_f, nt_a, nt_k, an_a, an_t, an_f, or_a, or_t, or_f, van_a, van_t, van_f, vor_a, vor_t, vor_f, vnt_a, vnt_k, ch_a, ch_ka, ch_kb, ch_t, ch_f, ch_k2, par_a, par_k, tg_a, tg_k, nx_k, b_nm, b_pr, b_tr, tr_k, e_nm, e_pr, for_a, for_k, call_a, any_a, items_l, items_t, idx_a, idx_k, idx_k2, no_a, some_a, some_k, sl_a, sl_k, sl_k1, sl_k2, get_a, get_k, get_k1, get_k2, run_a, run_rt, run_ro, run_nx, runo_a, runo_k, next_a, err_a, v0, v1, kD_ok, kD_err, vw_nil, th_nil, frz_nil, unS_fz, unS_no, unS_ow, List.map_cons, List.map_nil, List.set_cons_zero, List.set_cons_succ, startD, List.replicate, List.cons_append, List.nil_append, List.length_cons, List.length_nil, Nat.reduceAdd, Nat.reduceSub, dAdd_i, dSub_i, dOrd_i, bMin2_i, bMax2_i, tx0, tx1, tx2, tx3, lx0, lx1, comp_a, comp_k, comp_nil, comp_cons, comp_k1, comp_t, comp_f, comp_k3, comp_tt, pure_ok, wipe_nil, wipe_cons, en_a, en_k, enF_nil, enF_cons, zp_a, zp_l, zp_t, zpF_cons, zpF_nil, rg1_a, rg2_a, len_t, len_l, tuple_l, isi_ii, isi_bi, isi_tt, isi_ll, isi_ss, sl1, Bool.not_true, Bool.not_false, app_b, app_l, tix_a, tix_l, reto_a, reto_l, List.getElem?_cons_zero, List.getElem?_cons_succ, paro_a, paro_k, neg_i, rev_l, cut_l, told_a, told_ok, told_err, zp_m, compx_a, compx_k, tx_a, tx_k, isi_int_lst]
    rfl
  | tuple l =>
    simp only [F_is_count, b_is_count, seq_a, seq_nx, seq_rt, seq_ct, seq_bk, seq_err, if_a, if_t, if_f, asg_a, asg_k, own_a, own_k, lc_a, lc_k, ex_a, ex_k, rt_a, rt_k, op_a, op_k, op_k2, un_a, cons_a, cons_k, cons_k2, nil_a, c_a, tup_a, tup_k, lst_a, lst_k, bl_a, bl_k, eif_a, eif_t, eif_f, nt_a, nt_k, an_a, an_t, an_f, or_a, or_t, or_f, van_a, van_t, van_f, vor_a, vor_t, vor_f, vnt_a, vnt_k, ch_a, ch_ka, ch_kb, ch_t, ch_f, ch_k2, par_a, par_k, tg_a, tg_k, nx_k, b_nm, b_pr, b_tr, tr_k, e_nm, e_pr, for_a, for_k, call_a, any_a, items_l, items_t, idx_a, idx_k, idx_k2, no_a, some_a, some_k, sl_a, sl_k, sl_k1, sl_k2, get_a, get_k, get_k1, get_k2, run_a, run_rt, run_ro, run_nx, runo_a, runo_k, next_a, err_a, v0, v1, kD_ok, kD_err, vw_nil, th_nil, frz_nil, unS_fz, unS_no, unS_ow, List.map_cons, List.map_nil, List.set_cons_zero, List.set_cons_succ, startD, List.replicate, List.cons_append, List.nil_append, List.length_cons, List.length_nil, Nat.reduceAdd, Nat.reduceSub, dAdd_i, dSub_i, dOrd_i, bMin2_i, bMax2_i, tx0, tx1, tx2, tx3, lx0, lx1, comp_a, comp_k, comp_nil, comp_cons, comp_k1, comp_t, comp_f, comp_k3, comp_tt, pure_ok, wipe_nil, wipe_cons, en_a, en_k, enF_nil, enF_cons, zp_a, zp_l, zp_t, zpF_cons, zpF_nil, rg1_a, rg2_a, len_t, len_l, tuple_l, isi_ii, isi_bi, isi_tt, isi_ll, isi_ss, sl1, Bool.not_true, Bool.not_false, app_b, app_l, tix_a, tix_l, reto_a, reto_l, List.getElem?_cons_zero, List.getElem?_cons_succ, paro_a, paro_k, neg_i, rev_l, cut_l, told_a, told_ok, told_err, zp_m, compx_a, compx_k, tx_a, tx_k, isi_int_tup]
    rfl
  | dict l =>
    simp only [F_is_count, b_is_count, seq_a, seq_nx, seq_rt, seq_ct, seq_bk, seq_err, if_a, if_t, if_f, asg_a, asg_k, own_a, own_k, lc_a, lc_k, ex_a, ex_k, rt_a, rt_k, op_a, op_k, op_k2, un_a, cons_a, cons_k, cons_k2, nil_a, c_a, tup_a, tup_k, lst_a, lst_k, bl_a, bl_k, eif_a, eif_t, eif_f, nt_a, nt_k, an_a, an_t, an_f, or_a, or_t, or_f, van_a, van_t, van_f, vor_a, vor_t, vor_f, vnt_a, vnt_k, ch_a, ch_ka, ch_kb, ch_t, ch_f, ch_k2, par_a, par_k, tg_a, tg_k, nx_k, b_nm, b_pr, b_tr, tr_k, e_nm, e_pr, for_a, for_k, call_a, any_a, items_l, items_t, idx_a, idx_k, idx_k2, no_a, some_a, some_k, sl_a, sl_k, sl_k1, sl_k2, get_a, get_k, get_k1, get_k2, run_a, run_rt, run_ro, run_nx, runo_a, runo_k, next_a, err_a, v0, v1, kD_ok, kD_err, vw_nil, th_nil, frz_nil, unS_fz, unS_no, unS_ow, List.map_cons, List.map_nil, List.set_cons_zero, List.set_cons_succ, startD, List.replicate, List.cons_append, List.nil_append, List.length_cons, List.length_nil, Nat.reduceAdd, Nat.reduceSub, dAdd_i, dSub_i, dOrd_i, bMin2_i, bMax2_i, tx0, tx1, tx2, tx3, lx0, lx1, comp_a, comp_k, comp_nil, comp_cons, comp_k1, comp_t, comp_f, comp_k3, comp_tt, pure_ok, wipe_nil, wipe_cons, en_a, en_k, enF_nil, enF_cons, zp_a, zp_l, zp_t, zpF_cons, zpF_nil, rg1_a, rg2_a, len_t, len_l, tuple_l, isi_ii, isi_bi, isi_tt, isi_ll, isi_ss, sl1, Bool.not_true, Bool.not_false, app_b, app_l, tix_a, tix_l, reto_a, reto_l, List.getElem?_cons_zero, List.getElem?_cons_succ, paro_a, paro_k, neg_i, rev_l, cut_l, told_a, told_ok, told_err, zp_m, compx_a, compx_k, tx_a, tx_k, isi_int_dic l hn]
    rfl
def BND : List (Str × List (Int × Int)) := [("flat", [(0, 9)]), ("each", [(0, 9)]), ("base", [(0, 9), (0, 9)]), ("from", [(0, 9), (1, 5), (0, 9)]), ("packs", [(0, 9), (1, 5)]), ("gift", [(0, 9), (1, 5)]), ("least", [(0, 9), (0, 9)]), ("most", [(0, 9), (0, 9)]), ("off", [(0, 9), (1, 5), (0, 9)])]
def bnD (b : Int × Int) : D := .tuple [.int b.1, .int b.2]
def okNs (xs : List D) (bs : List (Int × Int)) : Bool := decide (xs.length = bs.length) && (xs.zip bs).all fun p => cntD p.1 p.2.1 p.2.2
def isRuleD (d : D) : Bool := match d with
  | .tuple (.str k :: xs) => (match BND.lookup k with
    | some bs => okNs xs bs
    | none => false)
  | _ => false
theorem ru_no (d : D) (h : dIsi "tuple" d = .ok (.bool false)) : F_is_rule [d] = .ok (.bool false) := by
  simp only [F_is_rule, b_is_rule, seq_a, seq_nx, seq_rt, seq_ct, seq_bk, seq_err, if_a, if_t, if_f, asg_a, asg_k, own_a, own_k, lc_a, lc_k, ex_a, ex_k, rt_a, rt_k, op_a, op_k, op_k2, un_a, cons_a, cons_k, cons_k2, nil_a, c_a, tup_a, tup_k, lst_a, lst_k, bl_a, bl_k, eif_a, eif_t, eif_f, nt_a, nt_k, an_a, an_t, an_f, or_a, or_t, or_f, van_a, van_t, van_f, vor_a, vor_t, vor_f, vnt_a, vnt_k, ch_a, ch_ka, ch_kb, ch_t, ch_f, ch_k2, par_a, par_k, tg_a, tg_k, nx_k, b_nm, b_pr, b_tr, tr_k, e_nm, e_pr, for_a, for_k, call_a, any_a, items_l, items_t, idx_a, idx_k, idx_k2, no_a, some_a, some_k, sl_a, sl_k, sl_k1, sl_k2, get_a, get_k, get_k1, get_k2, run_a, run_rt, run_ro, run_nx, runo_a, runo_k, next_a, err_a, v0, v1, kD_ok, kD_err, vw_nil, th_nil, frz_nil, unS_fz, unS_no, unS_ow, List.map_cons, List.map_nil, List.set_cons_zero, List.set_cons_succ, startD, List.replicate, List.cons_append, List.nil_append, List.length_cons, List.length_nil, Nat.reduceAdd, Nat.reduceSub, dAdd_i, dSub_i, dOrd_i, bMin2_i, bMax2_i, tx0, tx1, tx2, tx3, lx0, lx1, comp_a, comp_k, comp_nil, comp_cons, comp_k1, comp_t, comp_f, comp_k3, comp_tt, pure_ok, wipe_nil, wipe_cons, en_a, en_k, enF_nil, enF_cons, zp_a, zp_l, zp_t, zpF_cons, zpF_nil, rg1_a, rg2_a, len_t, len_l, tuple_l, isi_ii, isi_bi, isi_tt, isi_ll, isi_ss, sl1, Bool.not_true, Bool.not_false, app_b, app_l, tix_a, tix_l, reto_a, reto_l, List.getElem?_cons_zero, List.getElem?_cons_succ, paro_a, paro_k, neg_i, rev_l, cut_l, told_a, told_ok, told_err, zp_m, compx_a, compx_k, tx_a, tx_k, h]
theorem ru_nil : F_is_rule [.tuple []] = .ok (.bool false) := by
  have h : dEq (.tuple []) (.tuple []) = .ok (.bool true) := by kernel_rfl
  simp only [F_is_rule, b_is_rule, seq_a, seq_nx, seq_rt, seq_ct, seq_bk, seq_err, if_a, if_t, if_f, asg_a, asg_k, own_a, own_k, lc_a, lc_k, ex_a, ex_k, rt_a, rt_k, op_a, op_k, op_k2, un_a, cons_a, cons_k, cons_k2, nil_a, c_a, tup_a, tup_k, lst_a, lst_k, bl_a, bl_k, eif_a, eif_t, eif_f, nt_a, nt_k, an_a, an_t, an_f, or_a, or_t, or_f, van_a, van_t, van_f, vor_a, vor_t, vor_f, vnt_a, vnt_k, ch_a, ch_ka, ch_kb, ch_t, ch_f, ch_k2, par_a, par_k, tg_a, tg_k, nx_k, b_nm, b_pr, b_tr, tr_k, e_nm, e_pr, for_a, for_k, call_a, any_a, items_l, items_t, idx_a, idx_k, idx_k2, no_a, some_a, some_k, sl_a, sl_k, sl_k1, sl_k2, get_a, get_k, get_k1, get_k2, run_a, run_rt, run_ro, run_nx, runo_a, runo_k, next_a, err_a, v0, v1, kD_ok, kD_err, vw_nil, th_nil, frz_nil, unS_fz, unS_no, unS_ow, List.map_cons, List.map_nil, List.set_cons_zero, List.set_cons_succ, startD, List.replicate, List.cons_append, List.nil_append, List.length_cons, List.length_nil, Nat.reduceAdd, Nat.reduceSub, dAdd_i, dSub_i, dOrd_i, bMin2_i, bMax2_i, tx0, tx1, tx2, tx3, lx0, lx1, comp_a, comp_k, comp_nil, comp_cons, comp_k1, comp_t, comp_f, comp_k3, comp_tt, pure_ok, wipe_nil, wipe_cons, en_a, en_k, enF_nil, enF_cons, zp_a, zp_l, zp_t, zpF_cons, zpF_nil, rg1_a, rg2_a, len_t, len_l, tuple_l, isi_ii, isi_bi, isi_tt, isi_ll, isi_ss, sl1, Bool.not_true, Bool.not_false, app_b, app_l, tix_a, tix_l, reto_a, reto_l, List.getElem?_cons_zero, List.getElem?_cons_succ, paro_a, paro_k, neg_i, rev_l, cut_l, told_a, told_ok, told_err, zp_m, compx_a, compx_k, tx_a, tx_k, h]
theorem ru_key (x : D) (xs : List D) (h0 : dEq (.tuple (x :: xs)) (.tuple []) = .ok (.bool false)) (h : dIsi "str" x = .ok (.bool false)) : F_is_rule [.tuple (x :: xs)] = .ok (.bool false) := by
  simp only [F_is_rule, b_is_rule, seq_a, seq_nx, seq_rt, seq_ct, seq_bk, seq_err, if_a, if_t, if_f, asg_a, asg_k, own_a, own_k, lc_a, lc_k, ex_a, ex_k, rt_a, rt_k, op_a, op_k, op_k2, un_a, cons_a, cons_k, cons_k2, nil_a, c_a, tup_a, tup_k, lst_a, lst_k, bl_a, bl_k, eif_a, eif_t, eif_f, nt_a, nt_k, an_a, an_t, an_f, or_a, or_t, or_f, van_a, van_t, van_f, vor_a, vor_t, vor_f, vnt_a, vnt_k, ch_a, ch_ka, ch_kb, ch_t, ch_f, ch_k2, par_a, par_k, tg_a, tg_k, nx_k, b_nm, b_pr, b_tr, tr_k, e_nm, e_pr, for_a, for_k, call_a, any_a, items_l, items_t, idx_a, idx_k, idx_k2, no_a, some_a, some_k, sl_a, sl_k, sl_k1, sl_k2, get_a, get_k, get_k1, get_k2, run_a, run_rt, run_ro, run_nx, runo_a, runo_k, next_a, err_a, v0, v1, kD_ok, kD_err, vw_nil, th_nil, frz_nil, unS_fz, unS_no, unS_ow, List.map_cons, List.map_nil, List.set_cons_zero, List.set_cons_succ, startD, List.replicate, List.cons_append, List.nil_append, List.length_cons, List.length_nil, Nat.reduceAdd, Nat.reduceSub, dAdd_i, dSub_i, dOrd_i, bMin2_i, bMax2_i, tx0, tx1, tx2, tx3, lx0, lx1, comp_a, comp_k, comp_nil, comp_cons, comp_k1, comp_t, comp_f, comp_k3, comp_tt, pure_ok, wipe_nil, wipe_cons, en_a, en_k, enF_nil, enF_cons, zp_a, zp_l, zp_t, zpF_cons, zpF_nil, rg1_a, rg2_a, len_t, len_l, tuple_l, isi_ii, isi_bi, isi_tt, isi_ll, isi_ss, sl1, Bool.not_true, Bool.not_false, app_b, app_l, tix_a, tix_l, reto_a, reto_l, List.getElem?_cons_zero, List.getElem?_cons_succ, paro_a, paro_k, neg_i, rev_l, cut_l, told_a, told_ok, told_err, zp_m, compx_a, compx_k, tx_a, tx_k, h0, h]
theorem ru_kind (k : Str) (xs : List D) (h0 : dEq (.tuple (.str k :: xs)) (.tuple []) = .ok (.bool false)) (h : dIn true (.str k) c_KINDS = .ok (.bool true)) : F_is_rule [.tuple (.str k :: xs)] = .ok (.bool false) := by
  simp only [F_is_rule, b_is_rule, seq_a, seq_nx, seq_rt, seq_ct, seq_bk, seq_err, if_a, if_t, if_f, asg_a, asg_k, own_a, own_k, lc_a, lc_k, ex_a, ex_k, rt_a, rt_k, op_a, op_k, op_k2, un_a, cons_a, cons_k, cons_k2, nil_a, c_a, tup_a, tup_k, lst_a, lst_k, bl_a, bl_k, eif_a, eif_t, eif_f, nt_a, nt_k, an_a, an_t, an_f, or_a, or_t, or_f, van_a, van_t, van_f, vor_a, vor_t, vor_f, vnt_a, vnt_k, ch_a, ch_ka, ch_kb, ch_t, ch_f, ch_k2, par_a, par_k, tg_a, tg_k, nx_k, b_nm, b_pr, b_tr, tr_k, e_nm, e_pr, for_a, for_k, call_a, any_a, items_l, items_t, idx_a, idx_k, idx_k2, no_a, some_a, some_k, sl_a, sl_k, sl_k1, sl_k2, get_a, get_k, get_k1, get_k2, run_a, run_rt, run_ro, run_nx, runo_a, runo_k, next_a, err_a, v0, v1, kD_ok, kD_err, vw_nil, th_nil, frz_nil, unS_fz, unS_no, unS_ow, List.map_cons, List.map_nil, List.set_cons_zero, List.set_cons_succ, startD, List.replicate, List.cons_append, List.nil_append, List.length_cons, List.length_nil, Nat.reduceAdd, Nat.reduceSub, dAdd_i, dSub_i, dOrd_i, bMin2_i, bMax2_i, tx0, tx1, tx2, tx3, lx0, lx1, comp_a, comp_k, comp_nil, comp_cons, comp_k1, comp_t, comp_f, comp_k3, comp_tt, pure_ok, wipe_nil, wipe_cons, en_a, en_k, enF_nil, enF_cons, zp_a, zp_l, zp_t, zpF_cons, zpF_nil, rg1_a, rg2_a, len_t, len_l, tuple_l, isi_ii, isi_bi, isi_tt, isi_ll, isi_ss, sl1, Bool.not_true, Bool.not_false, app_b, app_l, tix_a, tix_l, reto_a, reto_l, List.getElem?_cons_zero, List.getElem?_cons_succ, paro_a, paro_k, neg_i, rev_l, cut_l, told_a, told_ok, told_err, zp_m, compx_a, compx_k, tx_a, tx_k, h0, h]
theorem ru_len (k : Str) (xs bl : List D) (h0 : dEq (.tuple (.str k :: xs)) (.tuple []) = .ok (.bool false)) (h : dIn true (.str k) c_KINDS = .ok (.bool false)) (hb : dTab t_BOUNDS (.str k) = .ok (.tuple bl)) (hl : dNe (.int ((xs.length + 1 : Nat) : Int)) (.int ((bl.length : Nat) + 1)) = .ok (.bool true)) : F_is_rule [.tuple (.str k :: xs)] = .ok (.bool false) := by
  simp only [F_is_rule, b_is_rule, seq_a, seq_nx, seq_rt, seq_ct, seq_bk, seq_err, if_a, if_t, if_f, asg_a, asg_k, own_a, own_k, lc_a, lc_k, ex_a, ex_k, rt_a, rt_k, op_a, op_k, op_k2, un_a, cons_a, cons_k, cons_k2, nil_a, c_a, tup_a, tup_k, lst_a, lst_k, bl_a, bl_k, eif_a, eif_t, eif_f, nt_a, nt_k, an_a, an_t, an_f, or_a, or_t, or_f, van_a, van_t, van_f, vor_a, vor_t, vor_f, vnt_a, vnt_k, ch_a, ch_ka, ch_kb, ch_t, ch_f, ch_k2, par_a, par_k, tg_a, tg_k, nx_k, b_nm, b_pr, b_tr, tr_k, e_nm, e_pr, for_a, for_k, call_a, any_a, items_l, items_t, idx_a, idx_k, idx_k2, no_a, some_a, some_k, sl_a, sl_k, sl_k1, sl_k2, get_a, get_k, get_k1, get_k2, run_a, run_rt, run_ro, run_nx, runo_a, runo_k, next_a, err_a, v0, v1, kD_ok, kD_err, vw_nil, th_nil, frz_nil, unS_fz, unS_no, unS_ow, List.map_cons, List.map_nil, List.set_cons_zero, List.set_cons_succ, startD, List.replicate, List.cons_append, List.nil_append, List.length_cons, List.length_nil, Nat.reduceAdd, Nat.reduceSub, dAdd_i, dSub_i, dOrd_i, bMin2_i, bMax2_i, tx0, tx1, tx2, tx3, lx0, lx1, comp_a, comp_k, comp_nil, comp_cons, comp_k1, comp_t, comp_f, comp_k3, comp_tt, pure_ok, wipe_nil, wipe_cons, en_a, en_k, enF_nil, enF_cons, zp_a, zp_l, zp_t, zpF_cons, zpF_nil, rg1_a, rg2_a, len_t, len_l, tuple_l, isi_ii, isi_bi, isi_tt, isi_ll, isi_ss, sl1, Bool.not_true, Bool.not_false, app_b, app_l, tix_a, tix_l, reto_a, reto_l, List.getElem?_cons_zero, List.getElem?_cons_succ, paro_a, paro_k, neg_i, rev_l, cut_l, told_a, told_ok, told_err, zp_m, compx_a, compx_k, tx_a, tx_k, h0, h, hb, hl]
theorem ru_all (k : Str) (xs bl out : List D) (b : Bool) (h0 : dEq (.tuple (.str k :: xs)) (.tuple []) = .ok (.bool false)) (h : dIn true (.str k) c_KINDS = .ok (.bool false)) (hb : dTab t_BOUNDS (.str k) = .ok (.tuple bl)) (hl : dNe (.int ((xs.length + 1 : Nat) : Int)) (.int ((bl.length : Nat) + 1)) = .ok (.bool false))
    (hc : compL [some (.tuple (.str k :: xs)), some (.tuple bl), none, none, none] (.pr (.nm 2) (.pr (.nm 3) (.nm 4))) tTrue e_is_rule_1 (zpF xs bl) = .ok out) (ha : bAll [.list out] = .ok (.bool b)) : F_is_rule [.tuple (.str k :: xs)] = .ok (.bool b) := by
  simp only [F_is_rule, b_is_rule, seq_a, seq_nx, seq_rt, seq_ct, seq_bk, seq_err, if_a, if_t, if_f, asg_a, asg_k, own_a, own_k, lc_a, lc_k, ex_a, ex_k, rt_a, rt_k, op_a, op_k, op_k2, un_a, cons_a, cons_k, cons_k2, nil_a, c_a, tup_a, tup_k, lst_a, lst_k, bl_a, bl_k, eif_a, eif_t, eif_f, nt_a, nt_k, an_a, an_t, an_f, or_a, or_t, or_f, van_a, van_t, van_f, vor_a, vor_t, vor_f, vnt_a, vnt_k, ch_a, ch_ka, ch_kb, ch_t, ch_f, ch_k2, par_a, par_k, tg_a, tg_k, nx_k, b_nm, b_pr, b_tr, tr_k, e_nm, e_pr, for_a, for_k, call_a, any_a, items_l, items_t, idx_a, idx_k, idx_k2, no_a, some_a, some_k, sl_a, sl_k, sl_k1, sl_k2, get_a, get_k, get_k1, get_k2, run_a, run_rt, run_ro, run_nx, runo_a, runo_k, next_a, err_a, v0, v1, kD_ok, kD_err, vw_nil, th_nil, frz_nil, unS_fz, unS_no, unS_ow, List.map_cons, List.map_nil, List.set_cons_zero, List.set_cons_succ, startD, List.replicate, List.cons_append, List.nil_append, List.length_cons, List.length_nil, Nat.reduceAdd, Nat.reduceSub, dAdd_i, dSub_i, dOrd_i, bMin2_i, bMax2_i, tx0, tx1, tx2, tx3, lx0, lx1, comp_a, comp_k, comp_nil, comp_cons, comp_k1, comp_t, comp_f, comp_k3, comp_tt, pure_ok, wipe_nil, wipe_cons, en_a, en_k, enF_nil, enF_cons, zp_a, zp_l, zp_t, zpF_cons, zpF_nil, rg1_a, rg2_a, len_t, len_l, tuple_l, isi_ii, isi_bi, isi_tt, isi_ll, isi_ss, sl1, Bool.not_true, Bool.not_false, app_b, app_l, tix_a, tix_l, reto_a, reto_l, List.getElem?_cons_zero, List.getElem?_cons_succ, paro_a, paro_k, neg_i, rev_l, cut_l, told_a, told_ok, told_err, zp_m, compx_a, compx_k, tx_a, tx_k, h0, h, hb, hl, hc, ha]
theorem ru_el (s0 s1 x lo hi : D) (b : Bool) (h : F_is_count [x, lo, hi] = .ok (.bool b)) : e_is_rule_1 [some s0, some s1, some x, some lo, some hi] = .ok (.bool b) := by
  simp only [e_is_rule_1, seq_a, seq_nx, seq_rt, seq_ct, seq_bk, seq_err, if_a, if_t, if_f, asg_a, asg_k, own_a, own_k, lc_a, lc_k, ex_a, ex_k, rt_a, rt_k, op_a, op_k, op_k2, un_a, cons_a, cons_k, cons_k2, nil_a, c_a, tup_a, tup_k, lst_a, lst_k, bl_a, bl_k, eif_a, eif_t, eif_f, nt_a, nt_k, an_a, an_t, an_f, or_a, or_t, or_f, van_a, van_t, van_f, vor_a, vor_t, vor_f, vnt_a, vnt_k, ch_a, ch_ka, ch_kb, ch_t, ch_f, ch_k2, par_a, par_k, tg_a, tg_k, nx_k, b_nm, b_pr, b_tr, tr_k, e_nm, e_pr, for_a, for_k, call_a, any_a, items_l, items_t, idx_a, idx_k, idx_k2, no_a, some_a, some_k, sl_a, sl_k, sl_k1, sl_k2, get_a, get_k, get_k1, get_k2, run_a, run_rt, run_ro, run_nx, runo_a, runo_k, next_a, err_a, v0, v1, kD_ok, kD_err, vw_nil, th_nil, frz_nil, unS_fz, unS_no, unS_ow, List.map_cons, List.map_nil, List.set_cons_zero, List.set_cons_succ, startD, List.replicate, List.cons_append, List.nil_append, List.length_cons, List.length_nil, Nat.reduceAdd, Nat.reduceSub, dAdd_i, dSub_i, dOrd_i, bMin2_i, bMax2_i, tx0, tx1, tx2, tx3, lx0, lx1, comp_a, comp_k, comp_nil, comp_cons, comp_k1, comp_t, comp_f, comp_k3, comp_tt, pure_ok, wipe_nil, wipe_cons, en_a, en_k, enF_nil, enF_cons, zp_a, zp_l, zp_t, zpF_cons, zpF_nil, rg1_a, rg2_a, len_t, len_l, tuple_l, isi_ii, isi_bi, isi_tt, isi_ll, isi_ss, sl1, Bool.not_true, Bool.not_false, app_b, app_l, tix_a, tix_l, reto_a, reto_l, List.getElem?_cons_zero, List.getElem?_cons_succ, paro_a, paro_k, neg_i, rev_l, cut_l, told_a, told_ok, told_err, zp_m, compx_a, compx_k, tx_a, tx_k, h]
theorem ru_comp (s0 s1 : D) : ∀ (xs : List D) (bs : List (Int × Int)), (∀ x ∈ xs, isFn x = false) → compL [some s0, some s1, none, none, none] (.pr (.nm 2) (.pr (.nm 3) (.nm 4))) tTrue e_is_rule_1 (zpF xs (bs.map bnD)) = .ok (((xs.zip bs).map fun p => cntD p.1 p.2.1 p.2.2).map PyData.bool)
  | [], _, _ => rfl
  | x :: xs, [], _ => rfl
  | x :: xs, b :: bs, hx => by
    have ih := ru_comp s0 s1 xs bs fun y hy => hx y (by simp [hy])
    show compL _ _ _ _ (.tuple [x, bnD b] :: zpF xs (bs.map bnD)) = _
    rw [comp_cons]
    show cK1 _ _ _ _ _ [some s0, some s1, some x, some (.int b.1), some (.int b.2)] = _
    rw [comp_k1, comp_tt, comp_t, ru_el _ _ _ _ _ _ (cnt_all x b.1 b.2 (hx x (by simp))), kD_ok, comp_k3, ih, kD_ok]
    rfl
theorem nofn_lay {d : D} (h : d.canLay0 = true) : isFn d = false := by
  cases d with
  | dict l => simp [PyData.canLay0] at h
  | _ => rfl
theorem nofn_all : ∀ {l : List D}, PyData.canLayAll0 l = true → ∀ x ∈ l, isFn x = false
  | [], _, x, hx => nomatch hx
  | d :: l, h, x, hx => by
    have h : d.canLay0 = true ∧ PyData.canLayAll0 l = true := by simpa [PyData.canLayAll0] using h
    rcases List.mem_cons.mp hx with q | q
    · rw [q]
      exact nofn_lay h.1
    · exact nofn_all h.2 x q
theorem nofn_tup {x : D} {xs : List D} (h : SeqAt.shaped (.tuple (x :: xs)) = true) : ∀ y ∈ xs, isFn y = false := by
  have h : (PyData.canLay0 (.tuple (x :: xs)) && decide (PyData.depth (.tuple (x :: xs)) ≤ 64)) = true := h
  rw [Bool.and_eq_true] at h
  have h1 : PyData.canLayAll0 (x :: xs) = true := by simpa [PyData.canLay0] using h.1
  exact fun y hy => nofn_all h1 y (by simp [hy])
theorem eqv_nilT (x : D) (xs : List D) (h : SeqAt.shaped (.tuple (x :: xs)) = true) : dEq (.tuple (x :: xs)) (.tuple []) = .ok (.bool false) := by
  unfold dEq
  rw [if_pos ⟨h, by kernel_rfl⟩]
  simp [PyData.eqv, PyData.eqvAll]
theorem ru_k (k : Str) (bs : List (Int × Int)) (xs : List D) (h0 : SeqAt.shaped (.tuple (.str k :: xs)) = true) (h : dIn true (.str k) c_KINDS = .ok (.bool false)) (hb : dTab t_BOUNDS (.str k) = .ok (.tuple (bs.map bnD))) : F_is_rule [.tuple (.str k :: xs)] = .ok (.bool (okNs xs bs)) := by
  have e0 := eqv_nilT _ _ h0
  have hl : dNe (.int ((xs.length + 1 : Nat) : Int)) (.int (((bs.map bnD).length : Nat) + 1)) = .ok (.bool (!decide (xs.length = bs.length))) := by
    rw [neI, List.length_map]
    congr 2
    rw [Bool.not_inj_iff, Bool.eq_iff_iff, beq_iff_eq, decide_eq_true_eq]
    omega
  unfold okNs
  by_cases hx : xs.length = bs.length
  · rw [decide_eq_true hx] at hl ⊢
    refine ru_all k xs _ _ _ e0 h hb hl (ru_comp _ _ xs bs (nofn_tup h0)) ?_
    rw [all_l, List.all_map]
    rfl
  · rw [decide_eq_false hx] at hl ⊢
    exact ru_len k xs _ e0 h hb hl
theorem eqv_ss (a b : Str) : PyData.eqv (.str a) (.str b) = (a == b) := by simp [PyData.eqv]
theorem kind_in (k : Str) : dIn true (.str k) c_KINDS = .ok (.bool (!(kindsL.any fun z => z == k))) := by
  show (if flatD (.str k) = true ∧ [PyData.str "flat", .str "each", .str "base", .str "from", .str "packs", .str "gift", .str "least", .str "most", .str "off"].all flatD = true then R.ok (PyData.bool (!([PyData.str "flat", .str "each", .str "base", .str "from", .str "packs", .str "gift", .str "least", .str "most", .str "off"].any fun z => PyData.eqv z (.str k)))) else .bad) = _
  rw [if_pos ⟨rfl, rfl⟩]
  simp only [List.any_cons, List.any_nil, eqv_ss, kindsL]
theorem is_rule_D (d : D) (hs : SeqAt.shaped d = true) : F_is_rule [d] = .ok (.bool (isRuleD d)) := by
  cases d with
  | none => exact ru_no _ isi_tup_none
  | bool b => exact ru_no _ (isi_tup_bool b)
  | int i => exact ru_no _ (isi_tup_int i)
  | str z => exact ru_no _ (isi_tup_str z)
  | list l => exact ru_no _ (isi_tup_lst l)
  | dict l => simp [SeqAt.shaped, PyData.canLay0] at hs
  | tuple l =>
    cases l with
    | nil => exact ru_nil
    | cons x xs =>
      have e0 := eqv_nilT _ _ hs
      cases x with
      | none => exact ru_key _ _ e0 isi_str_none
      | bool b => exact ru_key _ _ e0 (isi_str_bool b)
      | int i => exact ru_key _ _ e0 (isi_str_int i)
      | list l => exact ru_key _ _ e0 (isi_str_lst l)
      | tuple l => exact ru_key _ _ e0 (isi_str_tup l)
      | dict l =>
        refine ru_key _ _ e0 (isi_str_dic l ?_)
        have h : (PyData.canLay0 (.tuple (.dict l :: xs)) && decide (PyData.depth (.tuple (.dict l :: xs)) ≤ 64)) = true := hs
        rw [Bool.and_eq_true] at h
        have h1 : PyData.canLayAll0 (.dict l :: xs) = true := by simpa [PyData.canLay0] using h.1
        exact nofn_all h1 (.dict l) (by simp)
      | str k =>
        have hk := kind_in k
        show F_is_rule [.tuple (.str k :: xs)] = .ok (.bool (match BND.lookup k with
          | some bs => okNs xs bs
          | none => false))
        cases ha : kindsL.any fun z => z == k with
        | false =>
          rw [ha] at hk
          have e : BND.lookup k = none := by
            rw [List.any_eq_false] at ha
            rw [List.lookup_eq_none_iff]
            intro p hp
            simp only [BND, List.mem_cons, List.not_mem_nil, or_false] at hp
            have q : ∀ z ∈ kindsL, ¬(k == z) = true := fun z hz e => ha z hz (by rw [beq_iff_eq] at e ⊢; exact e.symm)
            rcases hp with rfl | rfl | rfl | rfl | rfl | rfl | rfl | rfl | rfl <;> simpa using q _ (by simp [kindsL])
          rw [e]
          exact ru_kind k xs e0 hk
        | true =>
          rw [ha] at hk
          obtain ⟨z, hz, e⟩ := List.any_eq_true.mp ha
          rw [beq_iff_eq] at e
          subst e
          simp only [kindsL, List.mem_cons, List.not_mem_nil, or_false] at hz
          rcases hz with rfl | rfl | rfl | rfl | rfl | rfl | rfl | rfl | rfl
          · exact ru_k _ [(0, 9)] xs hs hk bd_flat
          · exact ru_k _ [(0, 9)] xs hs hk bd_each
          · exact ru_k _ [(0, 9), (0, 9)] xs hs hk bd_base
          · exact ru_k _ [(0, 9), (1, 5), (0, 9)] xs hs hk bd_from
          · exact ru_k _ [(0, 9), (1, 5)] xs hs hk bd_packs
          · exact ru_k _ [(0, 9), (1, 5)] xs hs hk bd_gift
          · exact ru_k _ [(0, 9), (0, 9)] xs hs hk bd_least
          · exact ru_k _ [(0, 9), (0, 9)] xs hs hk bd_most
          · exact ru_k _ [(0, 9), (1, 5), (0, 9)] xs hs hk bd_off
/-! flat tuples are shaped -/
def okFl : D → Bool
  | .none => true
  | .bool _ => true
  | .int _ => true
  | .str x => PyData.strOk x
  | _ => false
theorem lay_fl : ∀ l : List D, l.all okFl = true → PyData.canLayAll0 l = true ∧ PyData.depthAll l = 0
  | [], _ => by simp [PyData.canLayAll0, PyData.depthAll]
  | d :: l, h => by
    rw [List.all_cons, Bool.and_eq_true] at h
    obtain ⟨h1, h2⟩ := lay_fl l h.2
    cases d <;> simp_all [okFl, PyData.canLayAll0, PyData.canLay0, PyData.depthAll, PyData.depth]
theorem shp_flat (l : List D) (h : l.all okFl = true) : SeqAt.shaped (.tuple l) = true := by
  obtain ⟨h1, h2⟩ := lay_fl l h
  simp [SeqAt.shaped, PyData.canLay0, PyData.depth, h1, h2]
theorem shp_flatL (l : List D) (h : l.all okFl = true) : SeqAt.shaped (.list l) = true := by
  obtain ⟨h1, h2⟩ := lay_fl l h
  simp [SeqAt.shaped, PyData.canLay0, PyData.depth, h1, h2]
/-! a valid rule's form -/
theorem rl_form (r : Rl) (h : r.ok) : ∃ (k : Str) (ns : List Int) (bs : List (Int × Int)), r.D = .tuple (.str k :: ns.map PyData.int) ∧ PyData.strOk k = true ∧ BND.lookup k = some bs ∧ ns.length = bs.length ∧ ns ≠ [] ∧ (∀ b ∈ bs, b = (0, 9) ∨ b = (1, 5)) ∧ ns.length ≤ 3 := by
  cases r with
  | flat c => exact ⟨"flat", [c], _, rfl, by kernel_rfl, rfl, rfl, by simp, by decide, by simp⟩
  | each c => exact ⟨"each", [c], _, rfl, by kernel_rfl, rfl, rfl, by simp, by decide, by simp⟩
  | base a b => exact ⟨"base", [a, b], _, rfl, by kernel_rfl, rfl, rfl, by simp, by decide, by simp⟩
  | frm c n d => exact ⟨"from", [c, n, d], _, rfl, by kernel_rfl, rfl, rfl, by simp, by decide, by simp⟩
  | packs c n => exact ⟨"packs", [c, n], _, rfl, by kernel_rfl, rfl, rfl, by simp, by decide, by simp⟩
  | gift c n => exact ⟨"gift", [c, n], _, rfl, by kernel_rfl, rfl, rfl, by simp, by decide, by simp⟩
  | least a b => exact ⟨"least", [a, b], _, rfl, by kernel_rfl, rfl, rfl, by simp, by decide, by simp⟩
  | most a b => exact ⟨"most", [a, b], _, rfl, by kernel_rfl, rfl, rfl, by simp, by decide, by simp⟩
  | off c n d => exact ⟨"off", [c, n, d], _, rfl, by kernel_rfl, rfl, rfl, by simp, by decide, by simp⟩
theorem okNs_len {xs : List D} {bs : List (Int × Int)} (h : xs.length ≠ bs.length) : okNs xs bs = false := by
  unfold okNs
  rw [decide_eq_false h]
  rfl
/-- one number bent -/
theorem okNs_bent {xs : List D} {bs : List (Int × Int)} {j : Nat} {w : D} (hj : j < bs.length) (hx : xs.length = bs.length) (hw : ∀ b ∈ bs, cntD w b.1 b.2 = false) : okNs (xs.set j w) bs = false := by
  unfold okNs
  rw [Bool.and_eq_false_iff]
  right
  rw [List.all_eq_false]
  refine ⟨(w, bs[j]), ?_, ?_⟩
  · rw [List.mem_iff_getElem?]
    refine ⟨j, ?_⟩
    rw [List.getElem?_zip_eq_some]
    exact ⟨List.getElem?_set_self (by omega), List.getElem?_eq_getElem hj⟩
  · have := hw _ (List.getElem_mem hj)
    simp [this]
end DL.K30
set_option Elab.async false
set_option linter.all false
set_option maxRecDepth 100000
set_option maxHeartbeats 4000000
/-! P1a: price; the law's cost. -/
namespace DL.K30
open PySem PySem.Spec PyProof.Rows L2 RZ DL
theorem dmul_c {c : Nat} (h : c < 10) (j : Int) : dMul (.int c) (.int j) = .ok (.int (c * j)) := dMul_i (small_mulL ⟨by omega, by omega⟩)
theorem dfd {n : Nat} (h : 0 < n ∧ n < 6) (i : Int) : dFdiv (.int i) (.int n) = .ok (.int (i / n)) := dFdiv_i ⟨by omega, Nat.lt_of_lt_of_le (show ((n : Int)).natAbs < 2 ^ 3 by omega) (Nat.pow_le_pow_right (by decide) (by decide))⟩
theorem dmd {n : Nat} (h : 0 < n ∧ n < 6) (i : Int) : dMod (.int i) (.int n) = .ok (.int (i % n)) := dMod_i (by omega)
theorem p_flat (c m : Int)  : F_price [.tuple [.str "flat", .int c], .int m] = .ok (.int (c)) := by
  simp only [F_price, b_price, seq_a, seq_nx, seq_rt, seq_ct, seq_bk, seq_err, if_a, if_t, if_f, asg_a, asg_k, own_a, own_k, lc_a, lc_k, ex_a, ex_k, rt_a, rt_k, op_a, op_k, op_k2, un_a, cons_a, cons_k, cons_k2, nil_a, c_a, tup_a, tup_k, lst_a, lst_k, bl_a, bl_k, eif_a, eif_t, eif_f, nt_a, nt_k, an_a, an_t, an_f, or_a, or_t, or_f, van_a, van_t, van_f, vor_a, vor_t, vor_f, vnt_a, vnt_k, ch_a, ch_ka, ch_kb, ch_t, ch_f, ch_k2, par_a, par_k, tg_a, tg_k, nx_k, b_nm, b_pr, b_tr, tr_k, e_nm, e_pr, for_a, for_k, call_a, any_a, items_l, items_t, idx_a, idx_k, idx_k2, no_a, some_a, some_k, sl_a, sl_k, sl_k1, sl_k2, get_a, get_k, get_k1, get_k2, run_a, run_rt, run_ro, run_nx, runo_a, runo_k, next_a, err_a, v0, v1, kD_ok, kD_err, vw_nil, th_nil, frz_nil, unS_fz, unS_no, unS_ow, List.map_cons, List.map_nil, List.set_cons_zero, List.set_cons_succ, startD, List.replicate, List.cons_append, List.nil_append, List.length_cons, List.length_nil, Nat.reduceAdd, Nat.reduceSub, dAdd_i, dSub_i, dOrd_i, bMin2_i, bMax2_i, tx0, tx1, tx2, tx3, lx0, lx1, comp_a, comp_k, comp_nil, comp_cons, comp_k1, comp_t, comp_f, comp_k3, comp_tt, pure_ok, wipe_nil, wipe_cons, en_a, en_k, enF_nil, enF_cons, zp_a, zp_l, zp_t, zpF_cons, zpF_nil, rg1_a, rg2_a, len_t, len_l, tuple_l, isi_ii, isi_bi, isi_tt, isi_ll, isi_ss, sl1, Bool.not_true, Bool.not_false, app_b, app_l, tix_a, tix_l, reto_a, reto_l, List.getElem?_cons_zero, List.getElem?_cons_succ, paro_a, paro_k, neg_i, rev_l, cut_l, told_a, told_ok, told_err, zp_m, compx_a, compx_k, tx_a, tx_k, q_flat_flat, q_flat_each, q_flat_base, q_flat_from, q_flat_packs, q_flat_gift, q_flat_least, q_flat_most, q_flat_off, q_each_flat, q_each_each, q_each_base, q_each_from, q_each_packs, q_each_gift, q_each_least, q_each_most, q_each_off, q_base_flat, q_base_each, q_base_base, q_base_from, q_base_packs, q_base_gift, q_base_least, q_base_most, q_base_off, q_from_flat, q_from_each, q_from_base, q_from_from, q_from_packs, q_from_gift, q_from_least, q_from_most, q_from_off, q_packs_flat, q_packs_each, q_packs_base, q_packs_from, q_packs_packs, q_packs_gift, q_packs_least, q_packs_most, q_packs_off, q_gift_flat, q_gift_each, q_gift_base, q_gift_from, q_gift_packs, q_gift_gift, q_gift_least, q_gift_most, q_gift_off, q_least_flat, q_least_each, q_least_base, q_least_from, q_least_packs, q_least_gift, q_least_least, q_least_most, q_least_off, q_most_flat, q_most_each, q_most_base, q_most_from, q_most_packs, q_most_gift, q_most_least, q_most_most, q_most_off, q_off_flat, q_off_each, q_off_base, q_off_from, q_off_packs, q_off_gift, q_off_least, q_off_most, q_off_off, in_flat, in_each, in_base, in_from, in_packs, in_gift, in_least, in_most, in_off, eo_flat, eo_each, eo_base, eo_from, eo_packs, eo_gift, eo_least, eo_most, eo_off, bd_flat, bd_each, bd_base, bd_from, bd_packs, bd_gift, bd_least, bd_most, bd_off, ne_flat, ne_each, ne_base, ne_from, ne_packs, ne_gift, ne_least, ne_most, ne_off]
theorem p_each (c m : Int) (hc : ∀ j : Int, dMul (.int c) (.int j) = .ok (.int (c * j))) : F_price [.tuple [.str "each", .int c], .int m] = .ok (.int (c * m)) := by
  simp only [F_price, b_price, seq_a, seq_nx, seq_rt, seq_ct, seq_bk, seq_err, if_a, if_t, if_f, asg_a, asg_k, own_a, own_k, lc_a, lc_k, ex_a, ex_k, rt_a, rt_k, op_a, op_k, op_k2, un_a, cons_a, cons_k, cons_k2, nil_a, c_a, tup_a, tup_k, lst_a, lst_k, bl_a, bl_k, eif_a, eif_t, eif_f, nt_a, nt_k, an_a, an_t, an_f, or_a, or_t, or_f, van_a, van_t, van_f, vor_a, vor_t, vor_f, vnt_a, vnt_k, ch_a, ch_ka, ch_kb, ch_t, ch_f, ch_k2, par_a, par_k, tg_a, tg_k, nx_k, b_nm, b_pr, b_tr, tr_k, e_nm, e_pr, for_a, for_k, call_a, any_a, items_l, items_t, idx_a, idx_k, idx_k2, no_a, some_a, some_k, sl_a, sl_k, sl_k1, sl_k2, get_a, get_k, get_k1, get_k2, run_a, run_rt, run_ro, run_nx, runo_a, runo_k, next_a, err_a, v0, v1, kD_ok, kD_err, vw_nil, th_nil, frz_nil, unS_fz, unS_no, unS_ow, List.map_cons, List.map_nil, List.set_cons_zero, List.set_cons_succ, startD, List.replicate, List.cons_append, List.nil_append, List.length_cons, List.length_nil, Nat.reduceAdd, Nat.reduceSub, dAdd_i, dSub_i, dOrd_i, bMin2_i, bMax2_i, tx0, tx1, tx2, tx3, lx0, lx1, comp_a, comp_k, comp_nil, comp_cons, comp_k1, comp_t, comp_f, comp_k3, comp_tt, pure_ok, wipe_nil, wipe_cons, en_a, en_k, enF_nil, enF_cons, zp_a, zp_l, zp_t, zpF_cons, zpF_nil, rg1_a, rg2_a, len_t, len_l, tuple_l, isi_ii, isi_bi, isi_tt, isi_ll, isi_ss, sl1, Bool.not_true, Bool.not_false, app_b, app_l, tix_a, tix_l, reto_a, reto_l, List.getElem?_cons_zero, List.getElem?_cons_succ, paro_a, paro_k, neg_i, rev_l, cut_l, told_a, told_ok, told_err, zp_m, compx_a, compx_k, tx_a, tx_k, q_flat_flat, q_flat_each, q_flat_base, q_flat_from, q_flat_packs, q_flat_gift, q_flat_least, q_flat_most, q_flat_off, q_each_flat, q_each_each, q_each_base, q_each_from, q_each_packs, q_each_gift, q_each_least, q_each_most, q_each_off, q_base_flat, q_base_each, q_base_base, q_base_from, q_base_packs, q_base_gift, q_base_least, q_base_most, q_base_off, q_from_flat, q_from_each, q_from_base, q_from_from, q_from_packs, q_from_gift, q_from_least, q_from_most, q_from_off, q_packs_flat, q_packs_each, q_packs_base, q_packs_from, q_packs_packs, q_packs_gift, q_packs_least, q_packs_most, q_packs_off, q_gift_flat, q_gift_each, q_gift_base, q_gift_from, q_gift_packs, q_gift_gift, q_gift_least, q_gift_most, q_gift_off, q_least_flat, q_least_each, q_least_base, q_least_from, q_least_packs, q_least_gift, q_least_least, q_least_most, q_least_off, q_most_flat, q_most_each, q_most_base, q_most_from, q_most_packs, q_most_gift, q_most_least, q_most_most, q_most_off, q_off_flat, q_off_each, q_off_base, q_off_from, q_off_packs, q_off_gift, q_off_least, q_off_most, q_off_off, in_flat, in_each, in_base, in_from, in_packs, in_gift, in_least, in_most, in_off, eo_flat, eo_each, eo_base, eo_from, eo_packs, eo_gift, eo_least, eo_most, eo_off, bd_flat, bd_each, bd_base, bd_from, bd_packs, bd_gift, bd_least, bd_most, bd_off, ne_flat, ne_each, ne_base, ne_from, ne_packs, ne_gift, ne_least, ne_most, ne_off, hc]
theorem p_base (a b m : Int) (hb : ∀ j : Int, dMul (.int b) (.int j) = .ok (.int (b * j))) : F_price [.tuple [.str "base", .int a, .int b], .int m] = .ok (.int (a + b * m)) := by
  simp only [F_price, b_price, seq_a, seq_nx, seq_rt, seq_ct, seq_bk, seq_err, if_a, if_t, if_f, asg_a, asg_k, own_a, own_k, lc_a, lc_k, ex_a, ex_k, rt_a, rt_k, op_a, op_k, op_k2, un_a, cons_a, cons_k, cons_k2, nil_a, c_a, tup_a, tup_k, lst_a, lst_k, bl_a, bl_k, eif_a, eif_t, eif_f, nt_a, nt_k, an_a, an_t, an_f, or_a, or_t, or_f, van_a, van_t, van_f, vor_a, vor_t, vor_f, vnt_a, vnt_k, ch_a, ch_ka, ch_kb, ch_t, ch_f, ch_k2, par_a, par_k, tg_a, tg_k, nx_k, b_nm, b_pr, b_tr, tr_k, e_nm, e_pr, for_a, for_k, call_a, any_a, items_l, items_t, idx_a, idx_k, idx_k2, no_a, some_a, some_k, sl_a, sl_k, sl_k1, sl_k2, get_a, get_k, get_k1, get_k2, run_a, run_rt, run_ro, run_nx, runo_a, runo_k, next_a, err_a, v0, v1, kD_ok, kD_err, vw_nil, th_nil, frz_nil, unS_fz, unS_no, unS_ow, List.map_cons, List.map_nil, List.set_cons_zero, List.set_cons_succ, startD, List.replicate, List.cons_append, List.nil_append, List.length_cons, List.length_nil, Nat.reduceAdd, Nat.reduceSub, dAdd_i, dSub_i, dOrd_i, bMin2_i, bMax2_i, tx0, tx1, tx2, tx3, lx0, lx1, comp_a, comp_k, comp_nil, comp_cons, comp_k1, comp_t, comp_f, comp_k3, comp_tt, pure_ok, wipe_nil, wipe_cons, en_a, en_k, enF_nil, enF_cons, zp_a, zp_l, zp_t, zpF_cons, zpF_nil, rg1_a, rg2_a, len_t, len_l, tuple_l, isi_ii, isi_bi, isi_tt, isi_ll, isi_ss, sl1, Bool.not_true, Bool.not_false, app_b, app_l, tix_a, tix_l, reto_a, reto_l, List.getElem?_cons_zero, List.getElem?_cons_succ, paro_a, paro_k, neg_i, rev_l, cut_l, told_a, told_ok, told_err, zp_m, compx_a, compx_k, tx_a, tx_k, q_flat_flat, q_flat_each, q_flat_base, q_flat_from, q_flat_packs, q_flat_gift, q_flat_least, q_flat_most, q_flat_off, q_each_flat, q_each_each, q_each_base, q_each_from, q_each_packs, q_each_gift, q_each_least, q_each_most, q_each_off, q_base_flat, q_base_each, q_base_base, q_base_from, q_base_packs, q_base_gift, q_base_least, q_base_most, q_base_off, q_from_flat, q_from_each, q_from_base, q_from_from, q_from_packs, q_from_gift, q_from_least, q_from_most, q_from_off, q_packs_flat, q_packs_each, q_packs_base, q_packs_from, q_packs_packs, q_packs_gift, q_packs_least, q_packs_most, q_packs_off, q_gift_flat, q_gift_each, q_gift_base, q_gift_from, q_gift_packs, q_gift_gift, q_gift_least, q_gift_most, q_gift_off, q_least_flat, q_least_each, q_least_base, q_least_from, q_least_packs, q_least_gift, q_least_least, q_least_most, q_least_off, q_most_flat, q_most_each, q_most_base, q_most_from, q_most_packs, q_most_gift, q_most_least, q_most_most, q_most_off, q_off_flat, q_off_each, q_off_base, q_off_from, q_off_packs, q_off_gift, q_off_least, q_off_most, q_off_off, in_flat, in_each, in_base, in_from, in_packs, in_gift, in_least, in_most, in_off, eo_flat, eo_each, eo_base, eo_from, eo_packs, eo_gift, eo_least, eo_most, eo_off, bd_flat, bd_each, bd_base, bd_from, bd_packs, bd_gift, bd_least, bd_most, bd_off, ne_flat, ne_each, ne_base, ne_from, ne_packs, ne_gift, ne_least, ne_most, ne_off, hb]
theorem p_frm (c n d m : Int) (hc : ∀ j : Int, dMul (.int c) (.int j) = .ok (.int (c * j))) (hd : ∀ j : Int, dMul (.int d) (.int j) = .ok (.int (d * j))) : F_price [.tuple [.str "from", .int c, .int n, .int d], .int m] = .ok (.int (c * (if n < m then n else m) + d * (if m - n > 0 then m - n else 0))) := by
  simp only [F_price, b_price, seq_a, seq_nx, seq_rt, seq_ct, seq_bk, seq_err, if_a, if_t, if_f, asg_a, asg_k, own_a, own_k, lc_a, lc_k, ex_a, ex_k, rt_a, rt_k, op_a, op_k, op_k2, un_a, cons_a, cons_k, cons_k2, nil_a, c_a, tup_a, tup_k, lst_a, lst_k, bl_a, bl_k, eif_a, eif_t, eif_f, nt_a, nt_k, an_a, an_t, an_f, or_a, or_t, or_f, van_a, van_t, van_f, vor_a, vor_t, vor_f, vnt_a, vnt_k, ch_a, ch_ka, ch_kb, ch_t, ch_f, ch_k2, par_a, par_k, tg_a, tg_k, nx_k, b_nm, b_pr, b_tr, tr_k, e_nm, e_pr, for_a, for_k, call_a, any_a, items_l, items_t, idx_a, idx_k, idx_k2, no_a, some_a, some_k, sl_a, sl_k, sl_k1, sl_k2, get_a, get_k, get_k1, get_k2, run_a, run_rt, run_ro, run_nx, runo_a, runo_k, next_a, err_a, v0, v1, kD_ok, kD_err, vw_nil, th_nil, frz_nil, unS_fz, unS_no, unS_ow, List.map_cons, List.map_nil, List.set_cons_zero, List.set_cons_succ, startD, List.replicate, List.cons_append, List.nil_append, List.length_cons, List.length_nil, Nat.reduceAdd, Nat.reduceSub, dAdd_i, dSub_i, dOrd_i, bMin2_i, bMax2_i, tx0, tx1, tx2, tx3, lx0, lx1, comp_a, comp_k, comp_nil, comp_cons, comp_k1, comp_t, comp_f, comp_k3, comp_tt, pure_ok, wipe_nil, wipe_cons, en_a, en_k, enF_nil, enF_cons, zp_a, zp_l, zp_t, zpF_cons, zpF_nil, rg1_a, rg2_a, len_t, len_l, tuple_l, isi_ii, isi_bi, isi_tt, isi_ll, isi_ss, sl1, Bool.not_true, Bool.not_false, app_b, app_l, tix_a, tix_l, reto_a, reto_l, List.getElem?_cons_zero, List.getElem?_cons_succ, paro_a, paro_k, neg_i, rev_l, cut_l, told_a, told_ok, told_err, zp_m, compx_a, compx_k, tx_a, tx_k, q_flat_flat, q_flat_each, q_flat_base, q_flat_from, q_flat_packs, q_flat_gift, q_flat_least, q_flat_most, q_flat_off, q_each_flat, q_each_each, q_each_base, q_each_from, q_each_packs, q_each_gift, q_each_least, q_each_most, q_each_off, q_base_flat, q_base_each, q_base_base, q_base_from, q_base_packs, q_base_gift, q_base_least, q_base_most, q_base_off, q_from_flat, q_from_each, q_from_base, q_from_from, q_from_packs, q_from_gift, q_from_least, q_from_most, q_from_off, q_packs_flat, q_packs_each, q_packs_base, q_packs_from, q_packs_packs, q_packs_gift, q_packs_least, q_packs_most, q_packs_off, q_gift_flat, q_gift_each, q_gift_base, q_gift_from, q_gift_packs, q_gift_gift, q_gift_least, q_gift_most, q_gift_off, q_least_flat, q_least_each, q_least_base, q_least_from, q_least_packs, q_least_gift, q_least_least, q_least_most, q_least_off, q_most_flat, q_most_each, q_most_base, q_most_from, q_most_packs, q_most_gift, q_most_least, q_most_most, q_most_off, q_off_flat, q_off_each, q_off_base, q_off_from, q_off_packs, q_off_gift, q_off_least, q_off_most, q_off_off, in_flat, in_each, in_base, in_from, in_packs, in_gift, in_least, in_most, in_off, eo_flat, eo_each, eo_base, eo_from, eo_packs, eo_gift, eo_least, eo_most, eo_off, bd_flat, bd_each, bd_base, bd_from, bd_packs, bd_gift, bd_least, bd_most, bd_off, ne_flat, ne_each, ne_base, ne_from, ne_packs, ne_gift, ne_least, ne_most, ne_off, hc, hd]
theorem p_packs (c n m : Int) (hc : ∀ j : Int, dMul (.int c) (.int j) = .ok (.int (c * j))) (fn : ∀ i : Int, dFdiv (.int i) (.int n) = .ok (.int (i / n))) : F_price [.tuple [.str "packs", .int c, .int n], .int m] = .ok (.int (c * ((m + n - 1) / n))) := by
  simp only [F_price, b_price, seq_a, seq_nx, seq_rt, seq_ct, seq_bk, seq_err, if_a, if_t, if_f, asg_a, asg_k, own_a, own_k, lc_a, lc_k, ex_a, ex_k, rt_a, rt_k, op_a, op_k, op_k2, un_a, cons_a, cons_k, cons_k2, nil_a, c_a, tup_a, tup_k, lst_a, lst_k, bl_a, bl_k, eif_a, eif_t, eif_f, nt_a, nt_k, an_a, an_t, an_f, or_a, or_t, or_f, van_a, van_t, van_f, vor_a, vor_t, vor_f, vnt_a, vnt_k, ch_a, ch_ka, ch_kb, ch_t, ch_f, ch_k2, par_a, par_k, tg_a, tg_k, nx_k, b_nm, b_pr, b_tr, tr_k, e_nm, e_pr, for_a, for_k, call_a, any_a, items_l, items_t, idx_a, idx_k, idx_k2, no_a, some_a, some_k, sl_a, sl_k, sl_k1, sl_k2, get_a, get_k, get_k1, get_k2, run_a, run_rt, run_ro, run_nx, runo_a, runo_k, next_a, err_a, v0, v1, kD_ok, kD_err, vw_nil, th_nil, frz_nil, unS_fz, unS_no, unS_ow, List.map_cons, List.map_nil, List.set_cons_zero, List.set_cons_succ, startD, List.replicate, List.cons_append, List.nil_append, List.length_cons, List.length_nil, Nat.reduceAdd, Nat.reduceSub, dAdd_i, dSub_i, dOrd_i, bMin2_i, bMax2_i, tx0, tx1, tx2, tx3, lx0, lx1, comp_a, comp_k, comp_nil, comp_cons, comp_k1, comp_t, comp_f, comp_k3, comp_tt, pure_ok, wipe_nil, wipe_cons, en_a, en_k, enF_nil, enF_cons, zp_a, zp_l, zp_t, zpF_cons, zpF_nil, rg1_a, rg2_a, len_t, len_l, tuple_l, isi_ii, isi_bi, isi_tt, isi_ll, isi_ss, sl1, Bool.not_true, Bool.not_false, app_b, app_l, tix_a, tix_l, reto_a, reto_l, List.getElem?_cons_zero, List.getElem?_cons_succ, paro_a, paro_k, neg_i, rev_l, cut_l, told_a, told_ok, told_err, zp_m, compx_a, compx_k, tx_a, tx_k, q_flat_flat, q_flat_each, q_flat_base, q_flat_from, q_flat_packs, q_flat_gift, q_flat_least, q_flat_most, q_flat_off, q_each_flat, q_each_each, q_each_base, q_each_from, q_each_packs, q_each_gift, q_each_least, q_each_most, q_each_off, q_base_flat, q_base_each, q_base_base, q_base_from, q_base_packs, q_base_gift, q_base_least, q_base_most, q_base_off, q_from_flat, q_from_each, q_from_base, q_from_from, q_from_packs, q_from_gift, q_from_least, q_from_most, q_from_off, q_packs_flat, q_packs_each, q_packs_base, q_packs_from, q_packs_packs, q_packs_gift, q_packs_least, q_packs_most, q_packs_off, q_gift_flat, q_gift_each, q_gift_base, q_gift_from, q_gift_packs, q_gift_gift, q_gift_least, q_gift_most, q_gift_off, q_least_flat, q_least_each, q_least_base, q_least_from, q_least_packs, q_least_gift, q_least_least, q_least_most, q_least_off, q_most_flat, q_most_each, q_most_base, q_most_from, q_most_packs, q_most_gift, q_most_least, q_most_most, q_most_off, q_off_flat, q_off_each, q_off_base, q_off_from, q_off_packs, q_off_gift, q_off_least, q_off_most, q_off_off, in_flat, in_each, in_base, in_from, in_packs, in_gift, in_least, in_most, in_off, eo_flat, eo_each, eo_base, eo_from, eo_packs, eo_gift, eo_least, eo_most, eo_off, bd_flat, bd_each, bd_base, bd_from, bd_packs, bd_gift, bd_least, bd_most, bd_off, ne_flat, ne_each, ne_base, ne_from, ne_packs, ne_gift, ne_least, ne_most, ne_off, hc, fn]
theorem p_gift (c n m : Int) (hc : ∀ j : Int, dMul (.int c) (.int j) = .ok (.int (c * j))) (fn : ∀ i : Int, dFdiv (.int i) (.int n) = .ok (.int (i / n))) : F_price [.tuple [.str "gift", .int c, .int n], .int m] = .ok (.int (c * (m - m / n))) := by
  simp only [F_price, b_price, seq_a, seq_nx, seq_rt, seq_ct, seq_bk, seq_err, if_a, if_t, if_f, asg_a, asg_k, own_a, own_k, lc_a, lc_k, ex_a, ex_k, rt_a, rt_k, op_a, op_k, op_k2, un_a, cons_a, cons_k, cons_k2, nil_a, c_a, tup_a, tup_k, lst_a, lst_k, bl_a, bl_k, eif_a, eif_t, eif_f, nt_a, nt_k, an_a, an_t, an_f, or_a, or_t, or_f, van_a, van_t, van_f, vor_a, vor_t, vor_f, vnt_a, vnt_k, ch_a, ch_ka, ch_kb, ch_t, ch_f, ch_k2, par_a, par_k, tg_a, tg_k, nx_k, b_nm, b_pr, b_tr, tr_k, e_nm, e_pr, for_a, for_k, call_a, any_a, items_l, items_t, idx_a, idx_k, idx_k2, no_a, some_a, some_k, sl_a, sl_k, sl_k1, sl_k2, get_a, get_k, get_k1, get_k2, run_a, run_rt, run_ro, run_nx, runo_a, runo_k, next_a, err_a, v0, v1, kD_ok, kD_err, vw_nil, th_nil, frz_nil, unS_fz, unS_no, unS_ow, List.map_cons, List.map_nil, List.set_cons_zero, List.set_cons_succ, startD, List.replicate, List.cons_append, List.nil_append, List.length_cons, List.length_nil, Nat.reduceAdd, Nat.reduceSub, dAdd_i, dSub_i, dOrd_i, bMin2_i, bMax2_i, tx0, tx1, tx2, tx3, lx0, lx1, comp_a, comp_k, comp_nil, comp_cons, comp_k1, comp_t, comp_f, comp_k3, comp_tt, pure_ok, wipe_nil, wipe_cons, en_a, en_k, enF_nil, enF_cons, zp_a, zp_l, zp_t, zpF_cons, zpF_nil, rg1_a, rg2_a, len_t, len_l, tuple_l, isi_ii, isi_bi, isi_tt, isi_ll, isi_ss, sl1, Bool.not_true, Bool.not_false, app_b, app_l, tix_a, tix_l, reto_a, reto_l, List.getElem?_cons_zero, List.getElem?_cons_succ, paro_a, paro_k, neg_i, rev_l, cut_l, told_a, told_ok, told_err, zp_m, compx_a, compx_k, tx_a, tx_k, q_flat_flat, q_flat_each, q_flat_base, q_flat_from, q_flat_packs, q_flat_gift, q_flat_least, q_flat_most, q_flat_off, q_each_flat, q_each_each, q_each_base, q_each_from, q_each_packs, q_each_gift, q_each_least, q_each_most, q_each_off, q_base_flat, q_base_each, q_base_base, q_base_from, q_base_packs, q_base_gift, q_base_least, q_base_most, q_base_off, q_from_flat, q_from_each, q_from_base, q_from_from, q_from_packs, q_from_gift, q_from_least, q_from_most, q_from_off, q_packs_flat, q_packs_each, q_packs_base, q_packs_from, q_packs_packs, q_packs_gift, q_packs_least, q_packs_most, q_packs_off, q_gift_flat, q_gift_each, q_gift_base, q_gift_from, q_gift_packs, q_gift_gift, q_gift_least, q_gift_most, q_gift_off, q_least_flat, q_least_each, q_least_base, q_least_from, q_least_packs, q_least_gift, q_least_least, q_least_most, q_least_off, q_most_flat, q_most_each, q_most_base, q_most_from, q_most_packs, q_most_gift, q_most_least, q_most_most, q_most_off, q_off_flat, q_off_each, q_off_base, q_off_from, q_off_packs, q_off_gift, q_off_least, q_off_most, q_off_off, in_flat, in_each, in_base, in_from, in_packs, in_gift, in_least, in_most, in_off, eo_flat, eo_each, eo_base, eo_from, eo_packs, eo_gift, eo_least, eo_most, eo_off, bd_flat, bd_each, bd_base, bd_from, bd_packs, bd_gift, bd_least, bd_most, bd_off, ne_flat, ne_each, ne_base, ne_from, ne_packs, ne_gift, ne_least, ne_most, ne_off, hc, fn]
theorem p_least (a b m : Int) (hb : ∀ j : Int, dMul (.int b) (.int j) = .ok (.int (b * j))) : F_price [.tuple [.str "least", .int a, .int b], .int m] = .ok (.int (if b * m > a then b * m else a)) := by
  simp only [F_price, b_price, seq_a, seq_nx, seq_rt, seq_ct, seq_bk, seq_err, if_a, if_t, if_f, asg_a, asg_k, own_a, own_k, lc_a, lc_k, ex_a, ex_k, rt_a, rt_k, op_a, op_k, op_k2, un_a, cons_a, cons_k, cons_k2, nil_a, c_a, tup_a, tup_k, lst_a, lst_k, bl_a, bl_k, eif_a, eif_t, eif_f, nt_a, nt_k, an_a, an_t, an_f, or_a, or_t, or_f, van_a, van_t, van_f, vor_a, vor_t, vor_f, vnt_a, vnt_k, ch_a, ch_ka, ch_kb, ch_t, ch_f, ch_k2, par_a, par_k, tg_a, tg_k, nx_k, b_nm, b_pr, b_tr, tr_k, e_nm, e_pr, for_a, for_k, call_a, any_a, items_l, items_t, idx_a, idx_k, idx_k2, no_a, some_a, some_k, sl_a, sl_k, sl_k1, sl_k2, get_a, get_k, get_k1, get_k2, run_a, run_rt, run_ro, run_nx, runo_a, runo_k, next_a, err_a, v0, v1, kD_ok, kD_err, vw_nil, th_nil, frz_nil, unS_fz, unS_no, unS_ow, List.map_cons, List.map_nil, List.set_cons_zero, List.set_cons_succ, startD, List.replicate, List.cons_append, List.nil_append, List.length_cons, List.length_nil, Nat.reduceAdd, Nat.reduceSub, dAdd_i, dSub_i, dOrd_i, bMin2_i, bMax2_i, tx0, tx1, tx2, tx3, lx0, lx1, comp_a, comp_k, comp_nil, comp_cons, comp_k1, comp_t, comp_f, comp_k3, comp_tt, pure_ok, wipe_nil, wipe_cons, en_a, en_k, enF_nil, enF_cons, zp_a, zp_l, zp_t, zpF_cons, zpF_nil, rg1_a, rg2_a, len_t, len_l, tuple_l, isi_ii, isi_bi, isi_tt, isi_ll, isi_ss, sl1, Bool.not_true, Bool.not_false, app_b, app_l, tix_a, tix_l, reto_a, reto_l, List.getElem?_cons_zero, List.getElem?_cons_succ, paro_a, paro_k, neg_i, rev_l, cut_l, told_a, told_ok, told_err, zp_m, compx_a, compx_k, tx_a, tx_k, q_flat_flat, q_flat_each, q_flat_base, q_flat_from, q_flat_packs, q_flat_gift, q_flat_least, q_flat_most, q_flat_off, q_each_flat, q_each_each, q_each_base, q_each_from, q_each_packs, q_each_gift, q_each_least, q_each_most, q_each_off, q_base_flat, q_base_each, q_base_base, q_base_from, q_base_packs, q_base_gift, q_base_least, q_base_most, q_base_off, q_from_flat, q_from_each, q_from_base, q_from_from, q_from_packs, q_from_gift, q_from_least, q_from_most, q_from_off, q_packs_flat, q_packs_each, q_packs_base, q_packs_from, q_packs_packs, q_packs_gift, q_packs_least, q_packs_most, q_packs_off, q_gift_flat, q_gift_each, q_gift_base, q_gift_from, q_gift_packs, q_gift_gift, q_gift_least, q_gift_most, q_gift_off, q_least_flat, q_least_each, q_least_base, q_least_from, q_least_packs, q_least_gift, q_least_least, q_least_most, q_least_off, q_most_flat, q_most_each, q_most_base, q_most_from, q_most_packs, q_most_gift, q_most_least, q_most_most, q_most_off, q_off_flat, q_off_each, q_off_base, q_off_from, q_off_packs, q_off_gift, q_off_least, q_off_most, q_off_off, in_flat, in_each, in_base, in_from, in_packs, in_gift, in_least, in_most, in_off, eo_flat, eo_each, eo_base, eo_from, eo_packs, eo_gift, eo_least, eo_most, eo_off, bd_flat, bd_each, bd_base, bd_from, bd_packs, bd_gift, bd_least, bd_most, bd_off, ne_flat, ne_each, ne_base, ne_from, ne_packs, ne_gift, ne_least, ne_most, ne_off, hb]
theorem p_most (a b m : Int) (ha : ∀ j : Int, dMul (.int a) (.int j) = .ok (.int (a * j))) (hb : ∀ j : Int, dMul (.int b) (.int j) = .ok (.int (b * j))) : F_price [.tuple [.str "most", .int a, .int b], .int m] = .ok (.int (if b * m < a * 5 then b * m else a * 5)) := by
  simp only [F_price, b_price, seq_a, seq_nx, seq_rt, seq_ct, seq_bk, seq_err, if_a, if_t, if_f, asg_a, asg_k, own_a, own_k, lc_a, lc_k, ex_a, ex_k, rt_a, rt_k, op_a, op_k, op_k2, un_a, cons_a, cons_k, cons_k2, nil_a, c_a, tup_a, tup_k, lst_a, lst_k, bl_a, bl_k, eif_a, eif_t, eif_f, nt_a, nt_k, an_a, an_t, an_f, or_a, or_t, or_f, van_a, van_t, van_f, vor_a, vor_t, vor_f, vnt_a, vnt_k, ch_a, ch_ka, ch_kb, ch_t, ch_f, ch_k2, par_a, par_k, tg_a, tg_k, nx_k, b_nm, b_pr, b_tr, tr_k, e_nm, e_pr, for_a, for_k, call_a, any_a, items_l, items_t, idx_a, idx_k, idx_k2, no_a, some_a, some_k, sl_a, sl_k, sl_k1, sl_k2, get_a, get_k, get_k1, get_k2, run_a, run_rt, run_ro, run_nx, runo_a, runo_k, next_a, err_a, v0, v1, kD_ok, kD_err, vw_nil, th_nil, frz_nil, unS_fz, unS_no, unS_ow, List.map_cons, List.map_nil, List.set_cons_zero, List.set_cons_succ, startD, List.replicate, List.cons_append, List.nil_append, List.length_cons, List.length_nil, Nat.reduceAdd, Nat.reduceSub, dAdd_i, dSub_i, dOrd_i, bMin2_i, bMax2_i, tx0, tx1, tx2, tx3, lx0, lx1, comp_a, comp_k, comp_nil, comp_cons, comp_k1, comp_t, comp_f, comp_k3, comp_tt, pure_ok, wipe_nil, wipe_cons, en_a, en_k, enF_nil, enF_cons, zp_a, zp_l, zp_t, zpF_cons, zpF_nil, rg1_a, rg2_a, len_t, len_l, tuple_l, isi_ii, isi_bi, isi_tt, isi_ll, isi_ss, sl1, Bool.not_true, Bool.not_false, app_b, app_l, tix_a, tix_l, reto_a, reto_l, List.getElem?_cons_zero, List.getElem?_cons_succ, paro_a, paro_k, neg_i, rev_l, cut_l, told_a, told_ok, told_err, zp_m, compx_a, compx_k, tx_a, tx_k, q_flat_flat, q_flat_each, q_flat_base, q_flat_from, q_flat_packs, q_flat_gift, q_flat_least, q_flat_most, q_flat_off, q_each_flat, q_each_each, q_each_base, q_each_from, q_each_packs, q_each_gift, q_each_least, q_each_most, q_each_off, q_base_flat, q_base_each, q_base_base, q_base_from, q_base_packs, q_base_gift, q_base_least, q_base_most, q_base_off, q_from_flat, q_from_each, q_from_base, q_from_from, q_from_packs, q_from_gift, q_from_least, q_from_most, q_from_off, q_packs_flat, q_packs_each, q_packs_base, q_packs_from, q_packs_packs, q_packs_gift, q_packs_least, q_packs_most, q_packs_off, q_gift_flat, q_gift_each, q_gift_base, q_gift_from, q_gift_packs, q_gift_gift, q_gift_least, q_gift_most, q_gift_off, q_least_flat, q_least_each, q_least_base, q_least_from, q_least_packs, q_least_gift, q_least_least, q_least_most, q_least_off, q_most_flat, q_most_each, q_most_base, q_most_from, q_most_packs, q_most_gift, q_most_least, q_most_most, q_most_off, q_off_flat, q_off_each, q_off_base, q_off_from, q_off_packs, q_off_gift, q_off_least, q_off_most, q_off_off, in_flat, in_each, in_base, in_from, in_packs, in_gift, in_least, in_most, in_off, eo_flat, eo_each, eo_base, eo_from, eo_packs, eo_gift, eo_least, eo_most, eo_off, bd_flat, bd_each, bd_base, bd_from, bd_packs, bd_gift, bd_least, bd_most, bd_off, ne_flat, ne_each, ne_base, ne_from, ne_packs, ne_gift, ne_least, ne_most, ne_off, ha, hb]
theorem p_off (c n d m : Int) (hc : ∀ j : Int, dMul (.int c) (.int j) = .ok (.int (c * j))) : F_price [.tuple [.str "off", .int c, .int n, .int d], .int m] = .ok (.int (if c * m - (if n ≤ m then d else 0) > 0 then c * m - (if n ≤ m then d else 0) else 0)) := by
  by_cases hn : n ≤ m
  · have e : pGe m n = true := decide_eq_true hn
    simp only [F_price, b_price, seq_a, seq_nx, seq_rt, seq_ct, seq_bk, seq_err, if_a, if_t, if_f, asg_a, asg_k, own_a, own_k, lc_a, lc_k, ex_a, ex_k, rt_a, rt_k, op_a, op_k, op_k2, un_a, cons_a, cons_k, cons_k2, nil_a, c_a, tup_a, tup_k, lst_a, lst_k, bl_a, bl_k, eif_a, eif_t, eif_f, nt_a, nt_k, an_a, an_t, an_f, or_a, or_t, or_f, van_a, van_t, van_f, vor_a, vor_t, vor_f, vnt_a, vnt_k, ch_a, ch_ka, ch_kb, ch_t, ch_f, ch_k2, par_a, par_k, tg_a, tg_k, nx_k, b_nm, b_pr, b_tr, tr_k, e_nm, e_pr, for_a, for_k, call_a, any_a, items_l, items_t, idx_a, idx_k, idx_k2, no_a, some_a, some_k, sl_a, sl_k, sl_k1, sl_k2, get_a, get_k, get_k1, get_k2, run_a, run_rt, run_ro, run_nx, runo_a, runo_k, next_a, err_a, v0, v1, kD_ok, kD_err, vw_nil, th_nil, frz_nil, unS_fz, unS_no, unS_ow, List.map_cons, List.map_nil, List.set_cons_zero, List.set_cons_succ, startD, List.replicate, List.cons_append, List.nil_append, List.length_cons, List.length_nil, Nat.reduceAdd, Nat.reduceSub, dAdd_i, dSub_i, dOrd_i, bMin2_i, bMax2_i, tx0, tx1, tx2, tx3, lx0, lx1, comp_a, comp_k, comp_nil, comp_cons, comp_k1, comp_t, comp_f, comp_k3, comp_tt, pure_ok, wipe_nil, wipe_cons, en_a, en_k, enF_nil, enF_cons, zp_a, zp_l, zp_t, zpF_cons, zpF_nil, rg1_a, rg2_a, len_t, len_l, tuple_l, isi_ii, isi_bi, isi_tt, isi_ll, isi_ss, sl1, Bool.not_true, Bool.not_false, app_b, app_l, tix_a, tix_l, reto_a, reto_l, List.getElem?_cons_zero, List.getElem?_cons_succ, paro_a, paro_k, neg_i, rev_l, cut_l, told_a, told_ok, told_err, zp_m, compx_a, compx_k, tx_a, tx_k, q_flat_flat, q_flat_each, q_flat_base, q_flat_from, q_flat_packs, q_flat_gift, q_flat_least, q_flat_most, q_flat_off, q_each_flat, q_each_each, q_each_base, q_each_from, q_each_packs, q_each_gift, q_each_least, q_each_most, q_each_off, q_base_flat, q_base_each, q_base_base, q_base_from, q_base_packs, q_base_gift, q_base_least, q_base_most, q_base_off, q_from_flat, q_from_each, q_from_base, q_from_from, q_from_packs, q_from_gift, q_from_least, q_from_most, q_from_off, q_packs_flat, q_packs_each, q_packs_base, q_packs_from, q_packs_packs, q_packs_gift, q_packs_least, q_packs_most, q_packs_off, q_gift_flat, q_gift_each, q_gift_base, q_gift_from, q_gift_packs, q_gift_gift, q_gift_least, q_gift_most, q_gift_off, q_least_flat, q_least_each, q_least_base, q_least_from, q_least_packs, q_least_gift, q_least_least, q_least_most, q_least_off, q_most_flat, q_most_each, q_most_base, q_most_from, q_most_packs, q_most_gift, q_most_least, q_most_most, q_most_off, q_off_flat, q_off_each, q_off_base, q_off_from, q_off_packs, q_off_gift, q_off_least, q_off_most, q_off_off, in_flat, in_each, in_base, in_from, in_packs, in_gift, in_least, in_most, in_off, eo_flat, eo_each, eo_base, eo_from, eo_packs, eo_gift, eo_least, eo_most, eo_off, bd_flat, bd_each, bd_base, bd_from, bd_packs, bd_gift, bd_least, bd_most, bd_off, ne_flat, ne_each, ne_base, ne_from, ne_packs, ne_gift, ne_least, ne_most, ne_off, hc, e, if_pos hn]
  · have e : pGe m n = false := decide_eq_false hn
    simp only [F_price, b_price, seq_a, seq_nx, seq_rt, seq_ct, seq_bk, seq_err, if_a, if_t, if_f, asg_a, asg_k, own_a, own_k, lc_a, lc_k, ex_a, ex_k, rt_a, rt_k, op_a, op_k, op_k2, un_a, cons_a, cons_k, cons_k2, nil_a, c_a, tup_a, tup_k, lst_a, lst_k, bl_a, bl_k, eif_a, eif_t, eif_f, nt_a, nt_k, an_a, an_t, an_f, or_a, or_t, or_f, van_a, van_t, van_f, vor_a, vor_t, vor_f, vnt_a, vnt_k, ch_a, ch_ka, ch_kb, ch_t, ch_f, ch_k2, par_a, par_k, tg_a, tg_k, nx_k, b_nm, b_pr, b_tr, tr_k, e_nm, e_pr, for_a, for_k, call_a, any_a, items_l, items_t, idx_a, idx_k, idx_k2, no_a, some_a, some_k, sl_a, sl_k, sl_k1, sl_k2, get_a, get_k, get_k1, get_k2, run_a, run_rt, run_ro, run_nx, runo_a, runo_k, next_a, err_a, v0, v1, kD_ok, kD_err, vw_nil, th_nil, frz_nil, unS_fz, unS_no, unS_ow, List.map_cons, List.map_nil, List.set_cons_zero, List.set_cons_succ, startD, List.replicate, List.cons_append, List.nil_append, List.length_cons, List.length_nil, Nat.reduceAdd, Nat.reduceSub, dAdd_i, dSub_i, dOrd_i, bMin2_i, bMax2_i, tx0, tx1, tx2, tx3, lx0, lx1, comp_a, comp_k, comp_nil, comp_cons, comp_k1, comp_t, comp_f, comp_k3, comp_tt, pure_ok, wipe_nil, wipe_cons, en_a, en_k, enF_nil, enF_cons, zp_a, zp_l, zp_t, zpF_cons, zpF_nil, rg1_a, rg2_a, len_t, len_l, tuple_l, isi_ii, isi_bi, isi_tt, isi_ll, isi_ss, sl1, Bool.not_true, Bool.not_false, app_b, app_l, tix_a, tix_l, reto_a, reto_l, List.getElem?_cons_zero, List.getElem?_cons_succ, paro_a, paro_k, neg_i, rev_l, cut_l, told_a, told_ok, told_err, zp_m, compx_a, compx_k, tx_a, tx_k, q_flat_flat, q_flat_each, q_flat_base, q_flat_from, q_flat_packs, q_flat_gift, q_flat_least, q_flat_most, q_flat_off, q_each_flat, q_each_each, q_each_base, q_each_from, q_each_packs, q_each_gift, q_each_least, q_each_most, q_each_off, q_base_flat, q_base_each, q_base_base, q_base_from, q_base_packs, q_base_gift, q_base_least, q_base_most, q_base_off, q_from_flat, q_from_each, q_from_base, q_from_from, q_from_packs, q_from_gift, q_from_least, q_from_most, q_from_off, q_packs_flat, q_packs_each, q_packs_base, q_packs_from, q_packs_packs, q_packs_gift, q_packs_least, q_packs_most, q_packs_off, q_gift_flat, q_gift_each, q_gift_base, q_gift_from, q_gift_packs, q_gift_gift, q_gift_least, q_gift_most, q_gift_off, q_least_flat, q_least_each, q_least_base, q_least_from, q_least_packs, q_least_gift, q_least_least, q_least_most, q_least_off, q_most_flat, q_most_each, q_most_base, q_most_from, q_most_packs, q_most_gift, q_most_least, q_most_most, q_most_off, q_off_flat, q_off_each, q_off_base, q_off_from, q_off_packs, q_off_gift, q_off_least, q_off_most, q_off_off, in_flat, in_each, in_base, in_from, in_packs, in_gift, in_least, in_most, in_off, eo_flat, eo_each, eo_base, eo_from, eo_packs, eo_gift, eo_least, eo_most, eo_off, bd_flat, bd_each, bd_base, bd_from, bd_packs, bd_gift, bd_least, bd_most, bd_off, ne_flat, ne_each, ne_base, ne_from, ne_packs, ne_gift, ne_least, ne_most, ne_off, hc, e, if_neg hn]
theorem price_ok (r : Rl) (h : r.ok) (m : Nat) : F_price [r.D, .int m] = .ok (.int (r.pr m)) := by
  cases r with
  | flat c => exact p_flat c m
  | each c => exact p_each c m (dmul_c h)
  | base a b => exact p_base a b m (dmul_c h.2)
  | frm c n d => exact p_frm c n d m (dmul_c h.1) (dmul_c h.2.2)
  | packs c n => exact p_packs c n m (dmul_c h.1) (dfd h.2)
  | gift c n => exact p_gift c n m (dmul_c h.1) (dfd h.2)
  | least a b => exact p_least a b m (dmul_c h.2)
  | most a b => exact p_most a b m (dmul_c h.1) (dmul_c h.2)
  | off c n d => exact p_off c n d m (dmul_c h.1)
theorem rgm (m : Nat) (h : m ≤ 20) : rg2K [.int 1, .int ((m : Int) + 1)] = .ok (rgD 1 m) := rg2_k (by omega) (by omega) (by omega)
end DL.K30
set_option Elab.async false
set_option linter.all false
set_option maxRecDepth 100000
set_option maxHeartbeats 4000000
/-! P1: price, the law's cost. -/
namespace DL.K30
open PySem PySem.Spec PyProof.Rows L2 RZ DL
/-! ### the law's own -/
def Rl.k : Rl → Str
  | .flat _ => "flat"
  | .each _ => "each"
  | .base _ _ => "base"
  | .frm _ _ _ => "from"
  | .packs _ _ => "packs"
  | .gift _ _ => "gift"
  | .least _ _ => "least"
  | .most _ _ => "most"
  | .off _ _ _ => "off"
/-- what one more adds -/
def Rl.inc (i : Int) : Rl → Int
  | .flat _ => 0
  | .each c => c
  | .base _ b => b
  | .frm c n d => if i ≤ n then c else d
  | .packs c n => if i % n = 1 ∨ (n : Int) = 1 then c else 0
  | .gift c n => if i % n = 0 then 0 else c
  | .least _ b => b
  | .most _ b => b
  | .off c _ _ => c
def Rl.sum (r : Rl) : Nat → Int
  | 0 => 0
  | i + 1 => r.sum i + r.inc (1 + i)
theorem w_each (c m acc i : Int) : L__law_cost_1 [.fz (.tuple [.str "each", .int c]), .fz (.int m), .fz (.str "each"), .fz (.int acc), .fz (.int i)] = .ok (.nx [.fz (.tuple [.str "each", .int c]), .fz (.int m), .fz (.str "each"), .fz (.int (acc + c)), .fz (.int i)]) := by
  simp only [L__law_cost_1, seq_a, seq_nx, seq_rt, seq_ct, seq_bk, seq_err, if_a, if_t, if_f, asg_a, asg_k, own_a, own_k, lc_a, lc_k, ex_a, ex_k, rt_a, rt_k, op_a, op_k, op_k2, un_a, cons_a, cons_k, cons_k2, nil_a, c_a, tup_a, tup_k, lst_a, lst_k, bl_a, bl_k, eif_a, eif_t, eif_f, nt_a, nt_k, an_a, an_t, an_f, or_a, or_t, or_f, van_a, van_t, van_f, vor_a, vor_t, vor_f, vnt_a, vnt_k, ch_a, ch_ka, ch_kb, ch_t, ch_f, ch_k2, par_a, par_k, tg_a, tg_k, nx_k, b_nm, b_pr, b_tr, tr_k, e_nm, e_pr, for_a, for_k, call_a, any_a, items_l, items_t, idx_a, idx_k, idx_k2, no_a, some_a, some_k, sl_a, sl_k, sl_k1, sl_k2, get_a, get_k, get_k1, get_k2, run_a, run_rt, run_ro, run_nx, runo_a, runo_k, next_a, err_a, v0, v1, kD_ok, kD_err, vw_nil, th_nil, frz_nil, unS_fz, unS_no, unS_ow, List.map_cons, List.map_nil, List.set_cons_zero, List.set_cons_succ, startD, List.replicate, List.cons_append, List.nil_append, List.length_cons, List.length_nil, Nat.reduceAdd, Nat.reduceSub, dAdd_i, dSub_i, dOrd_i, bMin2_i, bMax2_i, tx0, tx1, tx2, tx3, lx0, lx1, comp_a, comp_k, comp_nil, comp_cons, comp_k1, comp_t, comp_f, comp_k3, comp_tt, pure_ok, wipe_nil, wipe_cons, en_a, en_k, enF_nil, enF_cons, zp_a, zp_l, zp_t, zpF_cons, zpF_nil, rg1_a, rg2_a, len_t, len_l, tuple_l, isi_ii, isi_bi, isi_tt, isi_ll, isi_ss, sl1, Bool.not_true, Bool.not_false, app_b, app_l, tix_a, tix_l, reto_a, reto_l, List.getElem?_cons_zero, List.getElem?_cons_succ, paro_a, paro_k, neg_i, rev_l, cut_l, told_a, told_ok, told_err, zp_m, compx_a, compx_k, tx_a, tx_k, q_flat_flat, q_flat_each, q_flat_base, q_flat_from, q_flat_packs, q_flat_gift, q_flat_least, q_flat_most, q_flat_off, q_each_flat, q_each_each, q_each_base, q_each_from, q_each_packs, q_each_gift, q_each_least, q_each_most, q_each_off, q_base_flat, q_base_each, q_base_base, q_base_from, q_base_packs, q_base_gift, q_base_least, q_base_most, q_base_off, q_from_flat, q_from_each, q_from_base, q_from_from, q_from_packs, q_from_gift, q_from_least, q_from_most, q_from_off, q_packs_flat, q_packs_each, q_packs_base, q_packs_from, q_packs_packs, q_packs_gift, q_packs_least, q_packs_most, q_packs_off, q_gift_flat, q_gift_each, q_gift_base, q_gift_from, q_gift_packs, q_gift_gift, q_gift_least, q_gift_most, q_gift_off, q_least_flat, q_least_each, q_least_base, q_least_from, q_least_packs, q_least_gift, q_least_least, q_least_most, q_least_off, q_most_flat, q_most_each, q_most_base, q_most_from, q_most_packs, q_most_gift, q_most_least, q_most_most, q_most_off, q_off_flat, q_off_each, q_off_base, q_off_from, q_off_packs, q_off_gift, q_off_least, q_off_most, q_off_off, in_flat, in_each, in_base, in_from, in_packs, in_gift, in_least, in_most, in_off, eo_flat, eo_each, eo_base, eo_from, eo_packs, eo_gift, eo_least, eo_most, eo_off, bd_flat, bd_each, bd_base, bd_from, bd_packs, bd_gift, bd_least, bd_most, bd_off, ne_flat, ne_each, ne_base, ne_from, ne_packs, ne_gift, ne_least, ne_most, ne_off]
theorem w_base (a b m acc i : Int) : L__law_cost_1 [.fz (.tuple [.str "base", .int a, .int b]), .fz (.int m), .fz (.str "base"), .fz (.int acc), .fz (.int i)] = .ok (.nx [.fz (.tuple [.str "base", .int a, .int b]), .fz (.int m), .fz (.str "base"), .fz (.int (acc + b)), .fz (.int i)]) := by
  simp only [L__law_cost_1, seq_a, seq_nx, seq_rt, seq_ct, seq_bk, seq_err, if_a, if_t, if_f, asg_a, asg_k, own_a, own_k, lc_a, lc_k, ex_a, ex_k, rt_a, rt_k, op_a, op_k, op_k2, un_a, cons_a, cons_k, cons_k2, nil_a, c_a, tup_a, tup_k, lst_a, lst_k, bl_a, bl_k, eif_a, eif_t, eif_f, nt_a, nt_k, an_a, an_t, an_f, or_a, or_t, or_f, van_a, van_t, van_f, vor_a, vor_t, vor_f, vnt_a, vnt_k, ch_a, ch_ka, ch_kb, ch_t, ch_f, ch_k2, par_a, par_k, tg_a, tg_k, nx_k, b_nm, b_pr, b_tr, tr_k, e_nm, e_pr, for_a, for_k, call_a, any_a, items_l, items_t, idx_a, idx_k, idx_k2, no_a, some_a, some_k, sl_a, sl_k, sl_k1, sl_k2, get_a, get_k, get_k1, get_k2, run_a, run_rt, run_ro, run_nx, runo_a, runo_k, next_a, err_a, v0, v1, kD_ok, kD_err, vw_nil, th_nil, frz_nil, unS_fz, unS_no, unS_ow, List.map_cons, List.map_nil, List.set_cons_zero, List.set_cons_succ, startD, List.replicate, List.cons_append, List.nil_append, List.length_cons, List.length_nil, Nat.reduceAdd, Nat.reduceSub, dAdd_i, dSub_i, dOrd_i, bMin2_i, bMax2_i, tx0, tx1, tx2, tx3, lx0, lx1, comp_a, comp_k, comp_nil, comp_cons, comp_k1, comp_t, comp_f, comp_k3, comp_tt, pure_ok, wipe_nil, wipe_cons, en_a, en_k, enF_nil, enF_cons, zp_a, zp_l, zp_t, zpF_cons, zpF_nil, rg1_a, rg2_a, len_t, len_l, tuple_l, isi_ii, isi_bi, isi_tt, isi_ll, isi_ss, sl1, Bool.not_true, Bool.not_false, app_b, app_l, tix_a, tix_l, reto_a, reto_l, List.getElem?_cons_zero, List.getElem?_cons_succ, paro_a, paro_k, neg_i, rev_l, cut_l, told_a, told_ok, told_err, zp_m, compx_a, compx_k, tx_a, tx_k, q_flat_flat, q_flat_each, q_flat_base, q_flat_from, q_flat_packs, q_flat_gift, q_flat_least, q_flat_most, q_flat_off, q_each_flat, q_each_each, q_each_base, q_each_from, q_each_packs, q_each_gift, q_each_least, q_each_most, q_each_off, q_base_flat, q_base_each, q_base_base, q_base_from, q_base_packs, q_base_gift, q_base_least, q_base_most, q_base_off, q_from_flat, q_from_each, q_from_base, q_from_from, q_from_packs, q_from_gift, q_from_least, q_from_most, q_from_off, q_packs_flat, q_packs_each, q_packs_base, q_packs_from, q_packs_packs, q_packs_gift, q_packs_least, q_packs_most, q_packs_off, q_gift_flat, q_gift_each, q_gift_base, q_gift_from, q_gift_packs, q_gift_gift, q_gift_least, q_gift_most, q_gift_off, q_least_flat, q_least_each, q_least_base, q_least_from, q_least_packs, q_least_gift, q_least_least, q_least_most, q_least_off, q_most_flat, q_most_each, q_most_base, q_most_from, q_most_packs, q_most_gift, q_most_least, q_most_most, q_most_off, q_off_flat, q_off_each, q_off_base, q_off_from, q_off_packs, q_off_gift, q_off_least, q_off_most, q_off_off, in_flat, in_each, in_base, in_from, in_packs, in_gift, in_least, in_most, in_off, eo_flat, eo_each, eo_base, eo_from, eo_packs, eo_gift, eo_least, eo_most, eo_off, bd_flat, bd_each, bd_base, bd_from, bd_packs, bd_gift, bd_least, bd_most, bd_off, ne_flat, ne_each, ne_base, ne_from, ne_packs, ne_gift, ne_least, ne_most, ne_off]
theorem w_frm (c n d m acc i : Int) : L__law_cost_1 [.fz (.tuple [.str "from", .int c, .int n, .int d]), .fz (.int m), .fz (.str "from"), .fz (.int acc), .fz (.int i)] = .ok (.nx [.fz (.tuple [.str "from", .int c, .int n, .int d]), .fz (.int m), .fz (.str "from"), .fz (.int (acc + (if i ≤ n then c else d))), .fz (.int i)]) := by
  by_cases hn : i ≤ n
  · have e : pLe i n = true := decide_eq_true hn
    simp only [L__law_cost_1, seq_a, seq_nx, seq_rt, seq_ct, seq_bk, seq_err, if_a, if_t, if_f, asg_a, asg_k, own_a, own_k, lc_a, lc_k, ex_a, ex_k, rt_a, rt_k, op_a, op_k, op_k2, un_a, cons_a, cons_k, cons_k2, nil_a, c_a, tup_a, tup_k, lst_a, lst_k, bl_a, bl_k, eif_a, eif_t, eif_f, nt_a, nt_k, an_a, an_t, an_f, or_a, or_t, or_f, van_a, van_t, van_f, vor_a, vor_t, vor_f, vnt_a, vnt_k, ch_a, ch_ka, ch_kb, ch_t, ch_f, ch_k2, par_a, par_k, tg_a, tg_k, nx_k, b_nm, b_pr, b_tr, tr_k, e_nm, e_pr, for_a, for_k, call_a, any_a, items_l, items_t, idx_a, idx_k, idx_k2, no_a, some_a, some_k, sl_a, sl_k, sl_k1, sl_k2, get_a, get_k, get_k1, get_k2, run_a, run_rt, run_ro, run_nx, runo_a, runo_k, next_a, err_a, v0, v1, kD_ok, kD_err, vw_nil, th_nil, frz_nil, unS_fz, unS_no, unS_ow, List.map_cons, List.map_nil, List.set_cons_zero, List.set_cons_succ, startD, List.replicate, List.cons_append, List.nil_append, List.length_cons, List.length_nil, Nat.reduceAdd, Nat.reduceSub, dAdd_i, dSub_i, dOrd_i, bMin2_i, bMax2_i, tx0, tx1, tx2, tx3, lx0, lx1, comp_a, comp_k, comp_nil, comp_cons, comp_k1, comp_t, comp_f, comp_k3, comp_tt, pure_ok, wipe_nil, wipe_cons, en_a, en_k, enF_nil, enF_cons, zp_a, zp_l, zp_t, zpF_cons, zpF_nil, rg1_a, rg2_a, len_t, len_l, tuple_l, isi_ii, isi_bi, isi_tt, isi_ll, isi_ss, sl1, Bool.not_true, Bool.not_false, app_b, app_l, tix_a, tix_l, reto_a, reto_l, List.getElem?_cons_zero, List.getElem?_cons_succ, paro_a, paro_k, neg_i, rev_l, cut_l, told_a, told_ok, told_err, zp_m, compx_a, compx_k, tx_a, tx_k, q_flat_flat, q_flat_each, q_flat_base, q_flat_from, q_flat_packs, q_flat_gift, q_flat_least, q_flat_most, q_flat_off, q_each_flat, q_each_each, q_each_base, q_each_from, q_each_packs, q_each_gift, q_each_least, q_each_most, q_each_off, q_base_flat, q_base_each, q_base_base, q_base_from, q_base_packs, q_base_gift, q_base_least, q_base_most, q_base_off, q_from_flat, q_from_each, q_from_base, q_from_from, q_from_packs, q_from_gift, q_from_least, q_from_most, q_from_off, q_packs_flat, q_packs_each, q_packs_base, q_packs_from, q_packs_packs, q_packs_gift, q_packs_least, q_packs_most, q_packs_off, q_gift_flat, q_gift_each, q_gift_base, q_gift_from, q_gift_packs, q_gift_gift, q_gift_least, q_gift_most, q_gift_off, q_least_flat, q_least_each, q_least_base, q_least_from, q_least_packs, q_least_gift, q_least_least, q_least_most, q_least_off, q_most_flat, q_most_each, q_most_base, q_most_from, q_most_packs, q_most_gift, q_most_least, q_most_most, q_most_off, q_off_flat, q_off_each, q_off_base, q_off_from, q_off_packs, q_off_gift, q_off_least, q_off_most, q_off_off, in_flat, in_each, in_base, in_from, in_packs, in_gift, in_least, in_most, in_off, eo_flat, eo_each, eo_base, eo_from, eo_packs, eo_gift, eo_least, eo_most, eo_off, bd_flat, bd_each, bd_base, bd_from, bd_packs, bd_gift, bd_least, bd_most, bd_off, ne_flat, ne_each, ne_base, ne_from, ne_packs, ne_gift, ne_least, ne_most, ne_off, e, if_pos hn]
  · have e : pLe i n = false := decide_eq_false hn
    simp only [L__law_cost_1, seq_a, seq_nx, seq_rt, seq_ct, seq_bk, seq_err, if_a, if_t, if_f, asg_a, asg_k, own_a, own_k, lc_a, lc_k, ex_a, ex_k, rt_a, rt_k, op_a, op_k, op_k2, un_a, cons_a, cons_k, cons_k2, nil_a, c_a, tup_a, tup_k, lst_a, lst_k, bl_a, bl_k, eif_a, eif_t, eif_f, nt_a, nt_k, an_a, an_t, an_f, or_a, or_t, or_f, van_a, van_t, van_f, vor_a, vor_t, vor_f, vnt_a, vnt_k, ch_a, ch_ka, ch_kb, ch_t, ch_f, ch_k2, par_a, par_k, tg_a, tg_k, nx_k, b_nm, b_pr, b_tr, tr_k, e_nm, e_pr, for_a, for_k, call_a, any_a, items_l, items_t, idx_a, idx_k, idx_k2, no_a, some_a, some_k, sl_a, sl_k, sl_k1, sl_k2, get_a, get_k, get_k1, get_k2, run_a, run_rt, run_ro, run_nx, runo_a, runo_k, next_a, err_a, v0, v1, kD_ok, kD_err, vw_nil, th_nil, frz_nil, unS_fz, unS_no, unS_ow, List.map_cons, List.map_nil, List.set_cons_zero, List.set_cons_succ, startD, List.replicate, List.cons_append, List.nil_append, List.length_cons, List.length_nil, Nat.reduceAdd, Nat.reduceSub, dAdd_i, dSub_i, dOrd_i, bMin2_i, bMax2_i, tx0, tx1, tx2, tx3, lx0, lx1, comp_a, comp_k, comp_nil, comp_cons, comp_k1, comp_t, comp_f, comp_k3, comp_tt, pure_ok, wipe_nil, wipe_cons, en_a, en_k, enF_nil, enF_cons, zp_a, zp_l, zp_t, zpF_cons, zpF_nil, rg1_a, rg2_a, len_t, len_l, tuple_l, isi_ii, isi_bi, isi_tt, isi_ll, isi_ss, sl1, Bool.not_true, Bool.not_false, app_b, app_l, tix_a, tix_l, reto_a, reto_l, List.getElem?_cons_zero, List.getElem?_cons_succ, paro_a, paro_k, neg_i, rev_l, cut_l, told_a, told_ok, told_err, zp_m, compx_a, compx_k, tx_a, tx_k, q_flat_flat, q_flat_each, q_flat_base, q_flat_from, q_flat_packs, q_flat_gift, q_flat_least, q_flat_most, q_flat_off, q_each_flat, q_each_each, q_each_base, q_each_from, q_each_packs, q_each_gift, q_each_least, q_each_most, q_each_off, q_base_flat, q_base_each, q_base_base, q_base_from, q_base_packs, q_base_gift, q_base_least, q_base_most, q_base_off, q_from_flat, q_from_each, q_from_base, q_from_from, q_from_packs, q_from_gift, q_from_least, q_from_most, q_from_off, q_packs_flat, q_packs_each, q_packs_base, q_packs_from, q_packs_packs, q_packs_gift, q_packs_least, q_packs_most, q_packs_off, q_gift_flat, q_gift_each, q_gift_base, q_gift_from, q_gift_packs, q_gift_gift, q_gift_least, q_gift_most, q_gift_off, q_least_flat, q_least_each, q_least_base, q_least_from, q_least_packs, q_least_gift, q_least_least, q_least_most, q_least_off, q_most_flat, q_most_each, q_most_base, q_most_from, q_most_packs, q_most_gift, q_most_least, q_most_most, q_most_off, q_off_flat, q_off_each, q_off_base, q_off_from, q_off_packs, q_off_gift, q_off_least, q_off_most, q_off_off, in_flat, in_each, in_base, in_from, in_packs, in_gift, in_least, in_most, in_off, eo_flat, eo_each, eo_base, eo_from, eo_packs, eo_gift, eo_least, eo_most, eo_off, bd_flat, bd_each, bd_base, bd_from, bd_packs, bd_gift, bd_least, bd_most, bd_off, ne_flat, ne_each, ne_base, ne_from, ne_packs, ne_gift, ne_least, ne_most, ne_off, e, if_neg hn]
theorem w_packs (c n m acc i : Int) (hm : dMod (.int i) (.int n) = .ok (.int (i % n))) : L__law_cost_1 [.fz (.tuple [.str "packs", .int c, .int n]), .fz (.int m), .fz (.str "packs"), .fz (.int acc), .fz (.int i)] = .ok (.nx [.fz (.tuple [.str "packs", .int c, .int n]), .fz (.int m), .fz (.str "packs"), .fz (.int (acc + (if i % n = 1 ∨ n = 1 then c else 0))), .fz (.int i)]) := by
  by_cases h1 : i % n = 1
  · have e : (i % n == 1) = true := by simpa using h1
    simp only [L__law_cost_1, seq_a, seq_nx, seq_rt, seq_ct, seq_bk, seq_err, if_a, if_t, if_f, asg_a, asg_k, own_a, own_k, lc_a, lc_k, ex_a, ex_k, rt_a, rt_k, op_a, op_k, op_k2, un_a, cons_a, cons_k, cons_k2, nil_a, c_a, tup_a, tup_k, lst_a, lst_k, bl_a, bl_k, eif_a, eif_t, eif_f, nt_a, nt_k, an_a, an_t, an_f, or_a, or_t, or_f, van_a, van_t, van_f, vor_a, vor_t, vor_f, vnt_a, vnt_k, ch_a, ch_ka, ch_kb, ch_t, ch_f, ch_k2, par_a, par_k, tg_a, tg_k, nx_k, b_nm, b_pr, b_tr, tr_k, e_nm, e_pr, for_a, for_k, call_a, any_a, items_l, items_t, idx_a, idx_k, idx_k2, no_a, some_a, some_k, sl_a, sl_k, sl_k1, sl_k2, get_a, get_k, get_k1, get_k2, run_a, run_rt, run_ro, run_nx, runo_a, runo_k, next_a, err_a, v0, v1, kD_ok, kD_err, vw_nil, th_nil, frz_nil, unS_fz, unS_no, unS_ow, List.map_cons, List.map_nil, List.set_cons_zero, List.set_cons_succ, startD, List.replicate, List.cons_append, List.nil_append, List.length_cons, List.length_nil, Nat.reduceAdd, Nat.reduceSub, dAdd_i, dSub_i, dOrd_i, bMin2_i, bMax2_i, tx0, tx1, tx2, tx3, lx0, lx1, comp_a, comp_k, comp_nil, comp_cons, comp_k1, comp_t, comp_f, comp_k3, comp_tt, pure_ok, wipe_nil, wipe_cons, en_a, en_k, enF_nil, enF_cons, zp_a, zp_l, zp_t, zpF_cons, zpF_nil, rg1_a, rg2_a, len_t, len_l, tuple_l, isi_ii, isi_bi, isi_tt, isi_ll, isi_ss, sl1, Bool.not_true, Bool.not_false, app_b, app_l, tix_a, tix_l, reto_a, reto_l, List.getElem?_cons_zero, List.getElem?_cons_succ, paro_a, paro_k, neg_i, rev_l, cut_l, told_a, told_ok, told_err, zp_m, compx_a, compx_k, tx_a, tx_k, q_flat_flat, q_flat_each, q_flat_base, q_flat_from, q_flat_packs, q_flat_gift, q_flat_least, q_flat_most, q_flat_off, q_each_flat, q_each_each, q_each_base, q_each_from, q_each_packs, q_each_gift, q_each_least, q_each_most, q_each_off, q_base_flat, q_base_each, q_base_base, q_base_from, q_base_packs, q_base_gift, q_base_least, q_base_most, q_base_off, q_from_flat, q_from_each, q_from_base, q_from_from, q_from_packs, q_from_gift, q_from_least, q_from_most, q_from_off, q_packs_flat, q_packs_each, q_packs_base, q_packs_from, q_packs_packs, q_packs_gift, q_packs_least, q_packs_most, q_packs_off, q_gift_flat, q_gift_each, q_gift_base, q_gift_from, q_gift_packs, q_gift_gift, q_gift_least, q_gift_most, q_gift_off, q_least_flat, q_least_each, q_least_base, q_least_from, q_least_packs, q_least_gift, q_least_least, q_least_most, q_least_off, q_most_flat, q_most_each, q_most_base, q_most_from, q_most_packs, q_most_gift, q_most_least, q_most_most, q_most_off, q_off_flat, q_off_each, q_off_base, q_off_from, q_off_packs, q_off_gift, q_off_least, q_off_most, q_off_off, in_flat, in_each, in_base, in_from, in_packs, in_gift, in_least, in_most, in_off, eo_flat, eo_each, eo_base, eo_from, eo_packs, eo_gift, eo_least, eo_most, eo_off, bd_flat, bd_each, bd_base, bd_from, bd_packs, bd_gift, bd_least, bd_most, bd_off, ne_flat, ne_each, ne_base, ne_from, ne_packs, ne_gift, ne_least, ne_most, ne_off, hm, eqI, e, if_pos (Or.inl h1 : i % n = 1 ∨ n = 1)]
  · have e : (i % n == 1) = false := by simpa using h1
    by_cases h2 : n = 1
    · have e2 : (n == 1) = true := by simpa using h2
      simp only [L__law_cost_1, seq_a, seq_nx, seq_rt, seq_ct, seq_bk, seq_err, if_a, if_t, if_f, asg_a, asg_k, own_a, own_k, lc_a, lc_k, ex_a, ex_k, rt_a, rt_k, op_a, op_k, op_k2, un_a, cons_a, cons_k, cons_k2, nil_a, c_a, tup_a, tup_k, lst_a, lst_k, bl_a, bl_k, eif_a, eif_t, eif_f, nt_a, nt_k, an_a, an_t, an_f, or_a, or_t, or_f, van_a, van_t, van_f, vor_a, vor_t, vor_f, vnt_a, vnt_k, ch_a, ch_ka, ch_kb, ch_t, ch_f, ch_k2, par_a, par_k, tg_a, tg_k, nx_k, b_nm, b_pr, b_tr, tr_k, e_nm, e_pr, for_a, for_k, call_a, any_a, items_l, items_t, idx_a, idx_k, idx_k2, no_a, some_a, some_k, sl_a, sl_k, sl_k1, sl_k2, get_a, get_k, get_k1, get_k2, run_a, run_rt, run_ro, run_nx, runo_a, runo_k, next_a, err_a, v0, v1, kD_ok, kD_err, vw_nil, th_nil, frz_nil, unS_fz, unS_no, unS_ow, List.map_cons, List.map_nil, List.set_cons_zero, List.set_cons_succ, startD, List.replicate, List.cons_append, List.nil_append, List.length_cons, List.length_nil, Nat.reduceAdd, Nat.reduceSub, dAdd_i, dSub_i, dOrd_i, bMin2_i, bMax2_i, tx0, tx1, tx2, tx3, lx0, lx1, comp_a, comp_k, comp_nil, comp_cons, comp_k1, comp_t, comp_f, comp_k3, comp_tt, pure_ok, wipe_nil, wipe_cons, en_a, en_k, enF_nil, enF_cons, zp_a, zp_l, zp_t, zpF_cons, zpF_nil, rg1_a, rg2_a, len_t, len_l, tuple_l, isi_ii, isi_bi, isi_tt, isi_ll, isi_ss, sl1, Bool.not_true, Bool.not_false, app_b, app_l, tix_a, tix_l, reto_a, reto_l, List.getElem?_cons_zero, List.getElem?_cons_succ, paro_a, paro_k, neg_i, rev_l, cut_l, told_a, told_ok, told_err, zp_m, compx_a, compx_k, tx_a, tx_k, q_flat_flat, q_flat_each, q_flat_base, q_flat_from, q_flat_packs, q_flat_gift, q_flat_least, q_flat_most, q_flat_off, q_each_flat, q_each_each, q_each_base, q_each_from, q_each_packs, q_each_gift, q_each_least, q_each_most, q_each_off, q_base_flat, q_base_each, q_base_base, q_base_from, q_base_packs, q_base_gift, q_base_least, q_base_most, q_base_off, q_from_flat, q_from_each, q_from_base, q_from_from, q_from_packs, q_from_gift, q_from_least, q_from_most, q_from_off, q_packs_flat, q_packs_each, q_packs_base, q_packs_from, q_packs_packs, q_packs_gift, q_packs_least, q_packs_most, q_packs_off, q_gift_flat, q_gift_each, q_gift_base, q_gift_from, q_gift_packs, q_gift_gift, q_gift_least, q_gift_most, q_gift_off, q_least_flat, q_least_each, q_least_base, q_least_from, q_least_packs, q_least_gift, q_least_least, q_least_most, q_least_off, q_most_flat, q_most_each, q_most_base, q_most_from, q_most_packs, q_most_gift, q_most_least, q_most_most, q_most_off, q_off_flat, q_off_each, q_off_base, q_off_from, q_off_packs, q_off_gift, q_off_least, q_off_most, q_off_off, in_flat, in_each, in_base, in_from, in_packs, in_gift, in_least, in_most, in_off, eo_flat, eo_each, eo_base, eo_from, eo_packs, eo_gift, eo_least, eo_most, eo_off, bd_flat, bd_each, bd_base, bd_from, bd_packs, bd_gift, bd_least, bd_most, bd_off, ne_flat, ne_each, ne_base, ne_from, ne_packs, ne_gift, ne_least, ne_most, ne_off, hm, eqI, e, e2, if_pos (Or.inr h2 : i % n = 1 ∨ n = 1)]
    · have e2 : (n == 1) = false := by simpa using h2
      simp only [L__law_cost_1, seq_a, seq_nx, seq_rt, seq_ct, seq_bk, seq_err, if_a, if_t, if_f, asg_a, asg_k, own_a, own_k, lc_a, lc_k, ex_a, ex_k, rt_a, rt_k, op_a, op_k, op_k2, un_a, cons_a, cons_k, cons_k2, nil_a, c_a, tup_a, tup_k, lst_a, lst_k, bl_a, bl_k, eif_a, eif_t, eif_f, nt_a, nt_k, an_a, an_t, an_f, or_a, or_t, or_f, van_a, van_t, van_f, vor_a, vor_t, vor_f, vnt_a, vnt_k, ch_a, ch_ka, ch_kb, ch_t, ch_f, ch_k2, par_a, par_k, tg_a, tg_k, nx_k, b_nm, b_pr, b_tr, tr_k, e_nm, e_pr, for_a, for_k, call_a, any_a, items_l, items_t, idx_a, idx_k, idx_k2, no_a, some_a, some_k, sl_a, sl_k, sl_k1, sl_k2, get_a, get_k, get_k1, get_k2, run_a, run_rt, run_ro, run_nx, runo_a, runo_k, next_a, err_a, v0, v1, kD_ok, kD_err, vw_nil, th_nil, frz_nil, unS_fz, unS_no, unS_ow, List.map_cons, List.map_nil, List.set_cons_zero, List.set_cons_succ, startD, List.replicate, List.cons_append, List.nil_append, List.length_cons, List.length_nil, Nat.reduceAdd, Nat.reduceSub, dAdd_i, dSub_i, dOrd_i, bMin2_i, bMax2_i, tx0, tx1, tx2, tx3, lx0, lx1, comp_a, comp_k, comp_nil, comp_cons, comp_k1, comp_t, comp_f, comp_k3, comp_tt, pure_ok, wipe_nil, wipe_cons, en_a, en_k, enF_nil, enF_cons, zp_a, zp_l, zp_t, zpF_cons, zpF_nil, rg1_a, rg2_a, len_t, len_l, tuple_l, isi_ii, isi_bi, isi_tt, isi_ll, isi_ss, sl1, Bool.not_true, Bool.not_false, app_b, app_l, tix_a, tix_l, reto_a, reto_l, List.getElem?_cons_zero, List.getElem?_cons_succ, paro_a, paro_k, neg_i, rev_l, cut_l, told_a, told_ok, told_err, zp_m, compx_a, compx_k, tx_a, tx_k, q_flat_flat, q_flat_each, q_flat_base, q_flat_from, q_flat_packs, q_flat_gift, q_flat_least, q_flat_most, q_flat_off, q_each_flat, q_each_each, q_each_base, q_each_from, q_each_packs, q_each_gift, q_each_least, q_each_most, q_each_off, q_base_flat, q_base_each, q_base_base, q_base_from, q_base_packs, q_base_gift, q_base_least, q_base_most, q_base_off, q_from_flat, q_from_each, q_from_base, q_from_from, q_from_packs, q_from_gift, q_from_least, q_from_most, q_from_off, q_packs_flat, q_packs_each, q_packs_base, q_packs_from, q_packs_packs, q_packs_gift, q_packs_least, q_packs_most, q_packs_off, q_gift_flat, q_gift_each, q_gift_base, q_gift_from, q_gift_packs, q_gift_gift, q_gift_least, q_gift_most, q_gift_off, q_least_flat, q_least_each, q_least_base, q_least_from, q_least_packs, q_least_gift, q_least_least, q_least_most, q_least_off, q_most_flat, q_most_each, q_most_base, q_most_from, q_most_packs, q_most_gift, q_most_least, q_most_most, q_most_off, q_off_flat, q_off_each, q_off_base, q_off_from, q_off_packs, q_off_gift, q_off_least, q_off_most, q_off_off, in_flat, in_each, in_base, in_from, in_packs, in_gift, in_least, in_most, in_off, eo_flat, eo_each, eo_base, eo_from, eo_packs, eo_gift, eo_least, eo_most, eo_off, bd_flat, bd_each, bd_base, bd_from, bd_packs, bd_gift, bd_least, bd_most, bd_off, ne_flat, ne_each, ne_base, ne_from, ne_packs, ne_gift, ne_least, ne_most, ne_off, hm, eqI, e, e2, if_neg (fun q : i % n = 1 ∨ n = 1 => q.elim h1 h2)]
theorem w_gift (c n m acc i : Int) (hm : dMod (.int i) (.int n) = .ok (.int (i % n))) : L__law_cost_1 [.fz (.tuple [.str "gift", .int c, .int n]), .fz (.int m), .fz (.str "gift"), .fz (.int acc), .fz (.int i)] = .ok (.nx [.fz (.tuple [.str "gift", .int c, .int n]), .fz (.int m), .fz (.str "gift"), .fz (.int (acc + (if i % n = 0 then 0 else c))), .fz (.int i)]) := by
  by_cases h1 : i % n = 0
  · have e : (i % n == 0) = true := by simpa using h1
    simp only [L__law_cost_1, seq_a, seq_nx, seq_rt, seq_ct, seq_bk, seq_err, if_a, if_t, if_f, asg_a, asg_k, own_a, own_k, lc_a, lc_k, ex_a, ex_k, rt_a, rt_k, op_a, op_k, op_k2, un_a, cons_a, cons_k, cons_k2, nil_a, c_a, tup_a, tup_k, lst_a, lst_k, bl_a, bl_k, eif_a, eif_t, eif_f, nt_a, nt_k, an_a, an_t, an_f, or_a, or_t, or_f, van_a, van_t, van_f, vor_a, vor_t, vor_f, vnt_a, vnt_k, ch_a, ch_ka, ch_kb, ch_t, ch_f, ch_k2, par_a, par_k, tg_a, tg_k, nx_k, b_nm, b_pr, b_tr, tr_k, e_nm, e_pr, for_a, for_k, call_a, any_a, items_l, items_t, idx_a, idx_k, idx_k2, no_a, some_a, some_k, sl_a, sl_k, sl_k1, sl_k2, get_a, get_k, get_k1, get_k2, run_a, run_rt, run_ro, run_nx, runo_a, runo_k, next_a, err_a, v0, v1, kD_ok, kD_err, vw_nil, th_nil, frz_nil, unS_fz, unS_no, unS_ow, List.map_cons, List.map_nil, List.set_cons_zero, List.set_cons_succ, startD, List.replicate, List.cons_append, List.nil_append, List.length_cons, List.length_nil, Nat.reduceAdd, Nat.reduceSub, dAdd_i, dSub_i, dOrd_i, bMin2_i, bMax2_i, tx0, tx1, tx2, tx3, lx0, lx1, comp_a, comp_k, comp_nil, comp_cons, comp_k1, comp_t, comp_f, comp_k3, comp_tt, pure_ok, wipe_nil, wipe_cons, en_a, en_k, enF_nil, enF_cons, zp_a, zp_l, zp_t, zpF_cons, zpF_nil, rg1_a, rg2_a, len_t, len_l, tuple_l, isi_ii, isi_bi, isi_tt, isi_ll, isi_ss, sl1, Bool.not_true, Bool.not_false, app_b, app_l, tix_a, tix_l, reto_a, reto_l, List.getElem?_cons_zero, List.getElem?_cons_succ, paro_a, paro_k, neg_i, rev_l, cut_l, told_a, told_ok, told_err, zp_m, compx_a, compx_k, tx_a, tx_k, q_flat_flat, q_flat_each, q_flat_base, q_flat_from, q_flat_packs, q_flat_gift, q_flat_least, q_flat_most, q_flat_off, q_each_flat, q_each_each, q_each_base, q_each_from, q_each_packs, q_each_gift, q_each_least, q_each_most, q_each_off, q_base_flat, q_base_each, q_base_base, q_base_from, q_base_packs, q_base_gift, q_base_least, q_base_most, q_base_off, q_from_flat, q_from_each, q_from_base, q_from_from, q_from_packs, q_from_gift, q_from_least, q_from_most, q_from_off, q_packs_flat, q_packs_each, q_packs_base, q_packs_from, q_packs_packs, q_packs_gift, q_packs_least, q_packs_most, q_packs_off, q_gift_flat, q_gift_each, q_gift_base, q_gift_from, q_gift_packs, q_gift_gift, q_gift_least, q_gift_most, q_gift_off, q_least_flat, q_least_each, q_least_base, q_least_from, q_least_packs, q_least_gift, q_least_least, q_least_most, q_least_off, q_most_flat, q_most_each, q_most_base, q_most_from, q_most_packs, q_most_gift, q_most_least, q_most_most, q_most_off, q_off_flat, q_off_each, q_off_base, q_off_from, q_off_packs, q_off_gift, q_off_least, q_off_most, q_off_off, in_flat, in_each, in_base, in_from, in_packs, in_gift, in_least, in_most, in_off, eo_flat, eo_each, eo_base, eo_from, eo_packs, eo_gift, eo_least, eo_most, eo_off, bd_flat, bd_each, bd_base, bd_from, bd_packs, bd_gift, bd_least, bd_most, bd_off, ne_flat, ne_each, ne_base, ne_from, ne_packs, ne_gift, ne_least, ne_most, ne_off, hm, eqI, e, if_pos h1]
  · have e : (i % n == 0) = false := by simpa using h1
    simp only [L__law_cost_1, seq_a, seq_nx, seq_rt, seq_ct, seq_bk, seq_err, if_a, if_t, if_f, asg_a, asg_k, own_a, own_k, lc_a, lc_k, ex_a, ex_k, rt_a, rt_k, op_a, op_k, op_k2, un_a, cons_a, cons_k, cons_k2, nil_a, c_a, tup_a, tup_k, lst_a, lst_k, bl_a, bl_k, eif_a, eif_t, eif_f, nt_a, nt_k, an_a, an_t, an_f, or_a, or_t, or_f, van_a, van_t, van_f, vor_a, vor_t, vor_f, vnt_a, vnt_k, ch_a, ch_ka, ch_kb, ch_t, ch_f, ch_k2, par_a, par_k, tg_a, tg_k, nx_k, b_nm, b_pr, b_tr, tr_k, e_nm, e_pr, for_a, for_k, call_a, any_a, items_l, items_t, idx_a, idx_k, idx_k2, no_a, some_a, some_k, sl_a, sl_k, sl_k1, sl_k2, get_a, get_k, get_k1, get_k2, run_a, run_rt, run_ro, run_nx, runo_a, runo_k, next_a, err_a, v0, v1, kD_ok, kD_err, vw_nil, th_nil, frz_nil, unS_fz, unS_no, unS_ow, List.map_cons, List.map_nil, List.set_cons_zero, List.set_cons_succ, startD, List.replicate, List.cons_append, List.nil_append, List.length_cons, List.length_nil, Nat.reduceAdd, Nat.reduceSub, dAdd_i, dSub_i, dOrd_i, bMin2_i, bMax2_i, tx0, tx1, tx2, tx3, lx0, lx1, comp_a, comp_k, comp_nil, comp_cons, comp_k1, comp_t, comp_f, comp_k3, comp_tt, pure_ok, wipe_nil, wipe_cons, en_a, en_k, enF_nil, enF_cons, zp_a, zp_l, zp_t, zpF_cons, zpF_nil, rg1_a, rg2_a, len_t, len_l, tuple_l, isi_ii, isi_bi, isi_tt, isi_ll, isi_ss, sl1, Bool.not_true, Bool.not_false, app_b, app_l, tix_a, tix_l, reto_a, reto_l, List.getElem?_cons_zero, List.getElem?_cons_succ, paro_a, paro_k, neg_i, rev_l, cut_l, told_a, told_ok, told_err, zp_m, compx_a, compx_k, tx_a, tx_k, q_flat_flat, q_flat_each, q_flat_base, q_flat_from, q_flat_packs, q_flat_gift, q_flat_least, q_flat_most, q_flat_off, q_each_flat, q_each_each, q_each_base, q_each_from, q_each_packs, q_each_gift, q_each_least, q_each_most, q_each_off, q_base_flat, q_base_each, q_base_base, q_base_from, q_base_packs, q_base_gift, q_base_least, q_base_most, q_base_off, q_from_flat, q_from_each, q_from_base, q_from_from, q_from_packs, q_from_gift, q_from_least, q_from_most, q_from_off, q_packs_flat, q_packs_each, q_packs_base, q_packs_from, q_packs_packs, q_packs_gift, q_packs_least, q_packs_most, q_packs_off, q_gift_flat, q_gift_each, q_gift_base, q_gift_from, q_gift_packs, q_gift_gift, q_gift_least, q_gift_most, q_gift_off, q_least_flat, q_least_each, q_least_base, q_least_from, q_least_packs, q_least_gift, q_least_least, q_least_most, q_least_off, q_most_flat, q_most_each, q_most_base, q_most_from, q_most_packs, q_most_gift, q_most_least, q_most_most, q_most_off, q_off_flat, q_off_each, q_off_base, q_off_from, q_off_packs, q_off_gift, q_off_least, q_off_most, q_off_off, in_flat, in_each, in_base, in_from, in_packs, in_gift, in_least, in_most, in_off, eo_flat, eo_each, eo_base, eo_from, eo_packs, eo_gift, eo_least, eo_most, eo_off, bd_flat, bd_each, bd_base, bd_from, bd_packs, bd_gift, bd_least, bd_most, bd_off, ne_flat, ne_each, ne_base, ne_from, ne_packs, ne_gift, ne_least, ne_most, ne_off, hm, eqI, e, if_neg h1]
theorem w_least (a b m acc i : Int) : L__law_cost_1 [.fz (.tuple [.str "least", .int a, .int b]), .fz (.int m), .fz (.str "least"), .fz (.int acc), .fz (.int i)] = .ok (.nx [.fz (.tuple [.str "least", .int a, .int b]), .fz (.int m), .fz (.str "least"), .fz (.int (acc + b)), .fz (.int i)]) := by
  simp only [L__law_cost_1, seq_a, seq_nx, seq_rt, seq_ct, seq_bk, seq_err, if_a, if_t, if_f, asg_a, asg_k, own_a, own_k, lc_a, lc_k, ex_a, ex_k, rt_a, rt_k, op_a, op_k, op_k2, un_a, cons_a, cons_k, cons_k2, nil_a, c_a, tup_a, tup_k, lst_a, lst_k, bl_a, bl_k, eif_a, eif_t, eif_f, nt_a, nt_k, an_a, an_t, an_f, or_a, or_t, or_f, van_a, van_t, van_f, vor_a, vor_t, vor_f, vnt_a, vnt_k, ch_a, ch_ka, ch_kb, ch_t, ch_f, ch_k2, par_a, par_k, tg_a, tg_k, nx_k, b_nm, b_pr, b_tr, tr_k, e_nm, e_pr, for_a, for_k, call_a, any_a, items_l, items_t, idx_a, idx_k, idx_k2, no_a, some_a, some_k, sl_a, sl_k, sl_k1, sl_k2, get_a, get_k, get_k1, get_k2, run_a, run_rt, run_ro, run_nx, runo_a, runo_k, next_a, err_a, v0, v1, kD_ok, kD_err, vw_nil, th_nil, frz_nil, unS_fz, unS_no, unS_ow, List.map_cons, List.map_nil, List.set_cons_zero, List.set_cons_succ, startD, List.replicate, List.cons_append, List.nil_append, List.length_cons, List.length_nil, Nat.reduceAdd, Nat.reduceSub, dAdd_i, dSub_i, dOrd_i, bMin2_i, bMax2_i, tx0, tx1, tx2, tx3, lx0, lx1, comp_a, comp_k, comp_nil, comp_cons, comp_k1, comp_t, comp_f, comp_k3, comp_tt, pure_ok, wipe_nil, wipe_cons, en_a, en_k, enF_nil, enF_cons, zp_a, zp_l, zp_t, zpF_cons, zpF_nil, rg1_a, rg2_a, len_t, len_l, tuple_l, isi_ii, isi_bi, isi_tt, isi_ll, isi_ss, sl1, Bool.not_true, Bool.not_false, app_b, app_l, tix_a, tix_l, reto_a, reto_l, List.getElem?_cons_zero, List.getElem?_cons_succ, paro_a, paro_k, neg_i, rev_l, cut_l, told_a, told_ok, told_err, zp_m, compx_a, compx_k, tx_a, tx_k, q_flat_flat, q_flat_each, q_flat_base, q_flat_from, q_flat_packs, q_flat_gift, q_flat_least, q_flat_most, q_flat_off, q_each_flat, q_each_each, q_each_base, q_each_from, q_each_packs, q_each_gift, q_each_least, q_each_most, q_each_off, q_base_flat, q_base_each, q_base_base, q_base_from, q_base_packs, q_base_gift, q_base_least, q_base_most, q_base_off, q_from_flat, q_from_each, q_from_base, q_from_from, q_from_packs, q_from_gift, q_from_least, q_from_most, q_from_off, q_packs_flat, q_packs_each, q_packs_base, q_packs_from, q_packs_packs, q_packs_gift, q_packs_least, q_packs_most, q_packs_off, q_gift_flat, q_gift_each, q_gift_base, q_gift_from, q_gift_packs, q_gift_gift, q_gift_least, q_gift_most, q_gift_off, q_least_flat, q_least_each, q_least_base, q_least_from, q_least_packs, q_least_gift, q_least_least, q_least_most, q_least_off, q_most_flat, q_most_each, q_most_base, q_most_from, q_most_packs, q_most_gift, q_most_least, q_most_most, q_most_off, q_off_flat, q_off_each, q_off_base, q_off_from, q_off_packs, q_off_gift, q_off_least, q_off_most, q_off_off, in_flat, in_each, in_base, in_from, in_packs, in_gift, in_least, in_most, in_off, eo_flat, eo_each, eo_base, eo_from, eo_packs, eo_gift, eo_least, eo_most, eo_off, bd_flat, bd_each, bd_base, bd_from, bd_packs, bd_gift, bd_least, bd_most, bd_off, ne_flat, ne_each, ne_base, ne_from, ne_packs, ne_gift, ne_least, ne_most, ne_off]
theorem w_most (a b m acc i : Int) : L__law_cost_1 [.fz (.tuple [.str "most", .int a, .int b]), .fz (.int m), .fz (.str "most"), .fz (.int acc), .fz (.int i)] = .ok (.nx [.fz (.tuple [.str "most", .int a, .int b]), .fz (.int m), .fz (.str "most"), .fz (.int (acc + b)), .fz (.int i)]) := by
  simp only [L__law_cost_1, seq_a, seq_nx, seq_rt, seq_ct, seq_bk, seq_err, if_a, if_t, if_f, asg_a, asg_k, own_a, own_k, lc_a, lc_k, ex_a, ex_k, rt_a, rt_k, op_a, op_k, op_k2, un_a, cons_a, cons_k, cons_k2, nil_a, c_a, tup_a, tup_k, lst_a, lst_k, bl_a, bl_k, eif_a, eif_t, eif_f, nt_a, nt_k, an_a, an_t, an_f, or_a, or_t, or_f, van_a, van_t, van_f, vor_a, vor_t, vor_f, vnt_a, vnt_k, ch_a, ch_ka, ch_kb, ch_t, ch_f, ch_k2, par_a, par_k, tg_a, tg_k, nx_k, b_nm, b_pr, b_tr, tr_k, e_nm, e_pr, for_a, for_k, call_a, any_a, items_l, items_t, idx_a, idx_k, idx_k2, no_a, some_a, some_k, sl_a, sl_k, sl_k1, sl_k2, get_a, get_k, get_k1, get_k2, run_a, run_rt, run_ro, run_nx, runo_a, runo_k, next_a, err_a, v0, v1, kD_ok, kD_err, vw_nil, th_nil, frz_nil, unS_fz, unS_no, unS_ow, List.map_cons, List.map_nil, List.set_cons_zero, List.set_cons_succ, startD, List.replicate, List.cons_append, List.nil_append, List.length_cons, List.length_nil, Nat.reduceAdd, Nat.reduceSub, dAdd_i, dSub_i, dOrd_i, bMin2_i, bMax2_i, tx0, tx1, tx2, tx3, lx0, lx1, comp_a, comp_k, comp_nil, comp_cons, comp_k1, comp_t, comp_f, comp_k3, comp_tt, pure_ok, wipe_nil, wipe_cons, en_a, en_k, enF_nil, enF_cons, zp_a, zp_l, zp_t, zpF_cons, zpF_nil, rg1_a, rg2_a, len_t, len_l, tuple_l, isi_ii, isi_bi, isi_tt, isi_ll, isi_ss, sl1, Bool.not_true, Bool.not_false, app_b, app_l, tix_a, tix_l, reto_a, reto_l, List.getElem?_cons_zero, List.getElem?_cons_succ, paro_a, paro_k, neg_i, rev_l, cut_l, told_a, told_ok, told_err, zp_m, compx_a, compx_k, tx_a, tx_k, q_flat_flat, q_flat_each, q_flat_base, q_flat_from, q_flat_packs, q_flat_gift, q_flat_least, q_flat_most, q_flat_off, q_each_flat, q_each_each, q_each_base, q_each_from, q_each_packs, q_each_gift, q_each_least, q_each_most, q_each_off, q_base_flat, q_base_each, q_base_base, q_base_from, q_base_packs, q_base_gift, q_base_least, q_base_most, q_base_off, q_from_flat, q_from_each, q_from_base, q_from_from, q_from_packs, q_from_gift, q_from_least, q_from_most, q_from_off, q_packs_flat, q_packs_each, q_packs_base, q_packs_from, q_packs_packs, q_packs_gift, q_packs_least, q_packs_most, q_packs_off, q_gift_flat, q_gift_each, q_gift_base, q_gift_from, q_gift_packs, q_gift_gift, q_gift_least, q_gift_most, q_gift_off, q_least_flat, q_least_each, q_least_base, q_least_from, q_least_packs, q_least_gift, q_least_least, q_least_most, q_least_off, q_most_flat, q_most_each, q_most_base, q_most_from, q_most_packs, q_most_gift, q_most_least, q_most_most, q_most_off, q_off_flat, q_off_each, q_off_base, q_off_from, q_off_packs, q_off_gift, q_off_least, q_off_most, q_off_off, in_flat, in_each, in_base, in_from, in_packs, in_gift, in_least, in_most, in_off, eo_flat, eo_each, eo_base, eo_from, eo_packs, eo_gift, eo_least, eo_most, eo_off, bd_flat, bd_each, bd_base, bd_from, bd_packs, bd_gift, bd_least, bd_most, bd_off, ne_flat, ne_each, ne_base, ne_from, ne_packs, ne_gift, ne_least, ne_most, ne_off]
theorem w_off (c n d m acc i : Int) : L__law_cost_1 [.fz (.tuple [.str "off", .int c, .int n, .int d]), .fz (.int m), .fz (.str "off"), .fz (.int acc), .fz (.int i)] = .ok (.nx [.fz (.tuple [.str "off", .int c, .int n, .int d]), .fz (.int m), .fz (.str "off"), .fz (.int (acc + c)), .fz (.int i)]) := by
  simp only [L__law_cost_1, seq_a, seq_nx, seq_rt, seq_ct, seq_bk, seq_err, if_a, if_t, if_f, asg_a, asg_k, own_a, own_k, lc_a, lc_k, ex_a, ex_k, rt_a, rt_k, op_a, op_k, op_k2, un_a, cons_a, cons_k, cons_k2, nil_a, c_a, tup_a, tup_k, lst_a, lst_k, bl_a, bl_k, eif_a, eif_t, eif_f, nt_a, nt_k, an_a, an_t, an_f, or_a, or_t, or_f, van_a, van_t, van_f, vor_a, vor_t, vor_f, vnt_a, vnt_k, ch_a, ch_ka, ch_kb, ch_t, ch_f, ch_k2, par_a, par_k, tg_a, tg_k, nx_k, b_nm, b_pr, b_tr, tr_k, e_nm, e_pr, for_a, for_k, call_a, any_a, items_l, items_t, idx_a, idx_k, idx_k2, no_a, some_a, some_k, sl_a, sl_k, sl_k1, sl_k2, get_a, get_k, get_k1, get_k2, run_a, run_rt, run_ro, run_nx, runo_a, runo_k, next_a, err_a, v0, v1, kD_ok, kD_err, vw_nil, th_nil, frz_nil, unS_fz, unS_no, unS_ow, List.map_cons, List.map_nil, List.set_cons_zero, List.set_cons_succ, startD, List.replicate, List.cons_append, List.nil_append, List.length_cons, List.length_nil, Nat.reduceAdd, Nat.reduceSub, dAdd_i, dSub_i, dOrd_i, bMin2_i, bMax2_i, tx0, tx1, tx2, tx3, lx0, lx1, comp_a, comp_k, comp_nil, comp_cons, comp_k1, comp_t, comp_f, comp_k3, comp_tt, pure_ok, wipe_nil, wipe_cons, en_a, en_k, enF_nil, enF_cons, zp_a, zp_l, zp_t, zpF_cons, zpF_nil, rg1_a, rg2_a, len_t, len_l, tuple_l, isi_ii, isi_bi, isi_tt, isi_ll, isi_ss, sl1, Bool.not_true, Bool.not_false, app_b, app_l, tix_a, tix_l, reto_a, reto_l, List.getElem?_cons_zero, List.getElem?_cons_succ, paro_a, paro_k, neg_i, rev_l, cut_l, told_a, told_ok, told_err, zp_m, compx_a, compx_k, tx_a, tx_k, q_flat_flat, q_flat_each, q_flat_base, q_flat_from, q_flat_packs, q_flat_gift, q_flat_least, q_flat_most, q_flat_off, q_each_flat, q_each_each, q_each_base, q_each_from, q_each_packs, q_each_gift, q_each_least, q_each_most, q_each_off, q_base_flat, q_base_each, q_base_base, q_base_from, q_base_packs, q_base_gift, q_base_least, q_base_most, q_base_off, q_from_flat, q_from_each, q_from_base, q_from_from, q_from_packs, q_from_gift, q_from_least, q_from_most, q_from_off, q_packs_flat, q_packs_each, q_packs_base, q_packs_from, q_packs_packs, q_packs_gift, q_packs_least, q_packs_most, q_packs_off, q_gift_flat, q_gift_each, q_gift_base, q_gift_from, q_gift_packs, q_gift_gift, q_gift_least, q_gift_most, q_gift_off, q_least_flat, q_least_each, q_least_base, q_least_from, q_least_packs, q_least_gift, q_least_least, q_least_most, q_least_off, q_most_flat, q_most_each, q_most_base, q_most_from, q_most_packs, q_most_gift, q_most_least, q_most_most, q_most_off, q_off_flat, q_off_each, q_off_base, q_off_from, q_off_packs, q_off_gift, q_off_least, q_off_most, q_off_off, in_flat, in_each, in_base, in_from, in_packs, in_gift, in_least, in_most, in_off, eo_flat, eo_each, eo_base, eo_from, eo_packs, eo_gift, eo_least, eo_most, eo_off, bd_flat, bd_each, bd_base, bd_from, bd_packs, bd_gift, bd_least, bd_most, bd_off, ne_flat, ne_each, ne_base, ne_from, ne_packs, ne_gift, ne_least, ne_most, ne_off]
theorem body_ok (r : Rl) (h : r.ok) (hf : ∀ c, r ≠ .flat c) (m acc i : Int) : L__law_cost_1 [.fz r.D, .fz (.int m), .fz (.str r.k), .fz (.int acc), .fz (.int i)] = .ok (.nx [.fz r.D, .fz (.int m), .fz (.str r.k), .fz (.int (acc + r.inc i)), .fz (.int i)]) := by
  cases r with
  | flat c => exact absurd rfl (hf c)
  | each c => exact w_each c m acc i
  | base a b => exact w_base a b m acc i
  | frm c n d => exact w_frm c n d m acc i
  | packs c n => exact w_packs c n m acc i (dmd h.2 i)
  | gift c n => exact w_gift c n m acc i (dmd h.2 i)
  | least a b => exact w_least a b m acc i
  | most a b => exact w_most a b m acc i
  | off c n d => exact w_off c n d m acc i
theorem loop_ok (r : Rl) (h : r.ok) (hf : ∀ c, r ≠ .flat c) (m : Int) (n : Nat) (x : Sl) : ∃ y, forL (.nm 4) L__law_cost_1 (rgD 1 n) [.fz r.D, .fz (.int m), .fz (.str r.k), .fz (.int 0), x] = .ok (.nx [.fz r.D, .fz (.int m), .fz (.str r.k), .fz (.int (r.sum n)), y]) := by
  obtain ⟨ρ', h1, y, h2⟩ := forL_inv (p := .nm 4) (body := L__law_cost_1) (fun i ρ => ∃ y, ρ = [.fz r.D, .fz (.int m), .fz (.str r.k), .fz (.int (r.sum i)), y]) (rgD 1 n) 0 _ ⟨x, rfl⟩ (by
    rintro i d ρ hd ⟨y, rfl⟩
    obtain ⟨_, rfl⟩ := rg_at hd
    rw [Nat.zero_add]
    exact ⟨_, _, rfl, .inl (body_ok r h hf m (r.sum i) (1 + i)), _, rfl⟩)
  rw [Nat.zero_add, rgD_len] at h2
  exact ⟨y, h1.trans (by rw [h2])⟩
theorem merge2 {α : Type} (le : α → α → Bool) (a b : α) : [a, b].mergeSort le = if le a b = true then [a, b] else [b, a] := by
  simp [List.mergeSort, List.merge, List.MergeSort.Internal.splitInTwo]
theorem sort2 (a b : Int) : bSorted [.list [.int a, .int b]] = .ok (.list (if a ≤ b then [.int a, .int b] else [.int b, .int a])) := by
  have h1 : alikeAllB [.int a, .int b] = true := by kernel_rfl
  have h2 : sortB [.int a, .int b] = true := by kernel_rfl
  have h3 : SeqAt.shaped (.list [.int a, .int b]) = true := by kernel_rfl
  have h4 : sortD [.int a, .int b] = if a ≤ b then [.int a, .int b] else [.int b, .int a] := by
    unfold sortD
    rw [merge2]
    have e : PySem.W.dataLe false id (PyData.int a) (PyData.int b) = decide (a ≤ b) := by
      show (!PySem.W.dataLt (.int b) (.int a)) = _
      rw [PySem.W.dataLt_int, PySem.W.not_lt_int]
    rw [e]
    by_cases h : a ≤ b
    · simp [h]
    · simp [h]
  show (if alikeAllB [.int a, .int b] = true ∧ sortB [.int a, .int b] = true ∧ SeqAt.shaped (.list [.int a, .int b]) = true then R.ok (PyData.list (sortD [.int a, .int b])) else .bad) = _
  rw [if_pos ⟨h1, h2, h3⟩, h4]
theorem ifx0 (p : Prop) [Decidable p] (a b : Int) : dIx (.list (if p then [.int a, .int b] else [.int b, .int a])) (.int 0) = .ok (.int (if p then a else b)) := by
  by_cases h : p
  · rw [if_pos h, if_pos h]
    exact lx0 _ _
  · rw [if_neg h, if_neg h]
    exact lx0 _ _
theorem ifx1 (p : Prop) [Decidable p] (a b : Int) : dIx (.list (if p then [.int a, .int b] else [.int b, .int a])) (.int 1) = .ok (.int (if p then b else a)) := by
  by_cases h : p
  · rw [if_pos h, if_pos h]
    exact lx1 _ _ _
  · rw [if_neg h, if_neg h]
    exact lx1 _ _ _
theorem f_each : ∀ c : Nat, c < 10 → ∀ m : Nat, m < 21 → (Rl.each c).sum m = (Rl.each c).pr m := by decide +kernel
theorem f_base : ∀ a : Nat, a < 10 → ∀ b : Nat, b < 10 → ∀ m : Nat, m < 21 → (a : Int) + (Rl.base a b).sum m = (Rl.base a b).pr m := by decide +kernel
theorem f_frm : ∀ c : Nat, c < 10 → ∀ n : Nat, n < 6 → ∀ d : Nat, d < 10 → ∀ m : Nat, m < 21 → 0 < n → (Rl.frm c n d).sum m = (Rl.frm c n d).pr m := by decide +kernel
theorem f_packs : ∀ c : Nat, c < 10 → ∀ n : Nat, n < 6 → ∀ m : Nat, m < 21 → 0 < n → (Rl.packs c n).sum m = (Rl.packs c n).pr m := by decide +kernel
theorem f_gift : ∀ c : Nat, c < 10 → ∀ n : Nat, n < 6 → ∀ m : Nat, m < 21 → 0 < n → (Rl.gift c n).sum m = (Rl.gift c n).pr m := by decide +kernel
theorem f_least : ∀ a : Nat, a < 10 → ∀ b : Nat, b < 10 → ∀ m : Nat, m < 21 → (if (a : Int) ≤ (Rl.least a b).sum m then (Rl.least a b).sum m else (a : Int)) = (Rl.least a b).pr m := by decide +kernel
theorem f_most : ∀ a : Nat, a < 10 → ∀ b : Nat, b < 10 → ∀ m : Nat, m < 21 → (if 5 * (a : Int) ≤ (Rl.most a b).sum m then 5 * (a : Int) else (Rl.most a b).sum m) = (Rl.most a b).pr m := by decide +kernel
theorem f_off : ∀ c : Nat, c < 10 → ∀ n : Nat, n < 6 → ∀ d : Nat, d < 10 → ∀ m : Nat, m < 21 → 0 < n → (if (n : Int) ≤ (m : Int) then (if (0 : Int) ≤ (Rl.off c n d).sum m - (d : Int) then (Rl.off c n d).sum m - (d : Int) else 0) else (Rl.off c n d).sum m) = (Rl.off c n d).pr m := by decide +kernel
theorem dmul_5 {c : Nat} (h : c < 10) : dMul (.int 5) (.int c) = .ok (.int (5 * c)) := dMul_i (small_mulL ⟨by omega, by omega⟩)
theorem z_flat (c m : Int) : F__law_cost [.tuple [.str "flat", .int c], .int m] = .ok (.int c) := by
  simp only [F__law_cost, b__law_cost, seq_a, seq_nx, seq_rt, seq_ct, seq_bk, seq_err, if_a, if_t, if_f, asg_a, asg_k, own_a, own_k, lc_a, lc_k, ex_a, ex_k, rt_a, rt_k, op_a, op_k, op_k2, un_a, cons_a, cons_k, cons_k2, nil_a, c_a, tup_a, tup_k, lst_a, lst_k, bl_a, bl_k, eif_a, eif_t, eif_f, nt_a, nt_k, an_a, an_t, an_f, or_a, or_t, or_f, van_a, van_t, van_f, vor_a, vor_t, vor_f, vnt_a, vnt_k, ch_a, ch_ka, ch_kb, ch_t, ch_f, ch_k2, par_a, par_k, tg_a, tg_k, nx_k, b_nm, b_pr, b_tr, tr_k, e_nm, e_pr, for_a, for_k, call_a, any_a, items_l, items_t, idx_a, idx_k, idx_k2, no_a, some_a, some_k, sl_a, sl_k, sl_k1, sl_k2, get_a, get_k, get_k1, get_k2, run_a, run_rt, run_ro, run_nx, runo_a, runo_k, next_a, err_a, v0, v1, kD_ok, kD_err, vw_nil, th_nil, frz_nil, unS_fz, unS_no, unS_ow, List.map_cons, List.map_nil, List.set_cons_zero, List.set_cons_succ, startD, List.replicate, List.cons_append, List.nil_append, List.length_cons, List.length_nil, Nat.reduceAdd, Nat.reduceSub, dAdd_i, dSub_i, dOrd_i, bMin2_i, bMax2_i, tx0, tx1, tx2, tx3, lx0, lx1, comp_a, comp_k, comp_nil, comp_cons, comp_k1, comp_t, comp_f, comp_k3, comp_tt, pure_ok, wipe_nil, wipe_cons, en_a, en_k, enF_nil, enF_cons, zp_a, zp_l, zp_t, zpF_cons, zpF_nil, rg1_a, rg2_a, len_t, len_l, tuple_l, isi_ii, isi_bi, isi_tt, isi_ll, isi_ss, sl1, Bool.not_true, Bool.not_false, app_b, app_l, tix_a, tix_l, reto_a, reto_l, List.getElem?_cons_zero, List.getElem?_cons_succ, paro_a, paro_k, neg_i, rev_l, cut_l, told_a, told_ok, told_err, zp_m, compx_a, compx_k, tx_a, tx_k, q_flat_flat, q_flat_each, q_flat_base, q_flat_from, q_flat_packs, q_flat_gift, q_flat_least, q_flat_most, q_flat_off, q_each_flat, q_each_each, q_each_base, q_each_from, q_each_packs, q_each_gift, q_each_least, q_each_most, q_each_off, q_base_flat, q_base_each, q_base_base, q_base_from, q_base_packs, q_base_gift, q_base_least, q_base_most, q_base_off, q_from_flat, q_from_each, q_from_base, q_from_from, q_from_packs, q_from_gift, q_from_least, q_from_most, q_from_off, q_packs_flat, q_packs_each, q_packs_base, q_packs_from, q_packs_packs, q_packs_gift, q_packs_least, q_packs_most, q_packs_off, q_gift_flat, q_gift_each, q_gift_base, q_gift_from, q_gift_packs, q_gift_gift, q_gift_least, q_gift_most, q_gift_off, q_least_flat, q_least_each, q_least_base, q_least_from, q_least_packs, q_least_gift, q_least_least, q_least_most, q_least_off, q_most_flat, q_most_each, q_most_base, q_most_from, q_most_packs, q_most_gift, q_most_least, q_most_most, q_most_off, q_off_flat, q_off_each, q_off_base, q_off_from, q_off_packs, q_off_gift, q_off_least, q_off_most, q_off_off, in_flat, in_each, in_base, in_from, in_packs, in_gift, in_least, in_most, in_off, eo_flat, eo_each, eo_base, eo_from, eo_packs, eo_gift, eo_least, eo_most, eo_off, bd_flat, bd_each, bd_base, bd_from, bd_packs, bd_gift, bd_least, bd_most, bd_off, ne_flat, ne_each, ne_base, ne_from, ne_packs, ne_gift, ne_least, ne_most, ne_off]
theorem z_each (c m s : Int) (y : Sl) (l : List D) (hl : rg2K [.int 1, .int (m + 1)] = .ok l) (e : forL (.nm 4) L__law_cost_1 l [.fz (.tuple [.str "each", .int c]), .fz (.int m), .fz (.str "each"), .fz (.int 0), .no] = .ok (.nx [.fz (.tuple [.str "each", .int c]), .fz (.int m), .fz (.str "each"), .fz (.int s), y])) : F__law_cost [.tuple [.str "each", .int c], .int m] = .ok (.int (s)) := by
  simp only [F__law_cost, b__law_cost, seq_a, seq_nx, seq_rt, seq_ct, seq_bk, seq_err, if_a, if_t, if_f, asg_a, asg_k, own_a, own_k, lc_a, lc_k, ex_a, ex_k, rt_a, rt_k, op_a, op_k, op_k2, un_a, cons_a, cons_k, cons_k2, nil_a, c_a, tup_a, tup_k, lst_a, lst_k, bl_a, bl_k, eif_a, eif_t, eif_f, nt_a, nt_k, an_a, an_t, an_f, or_a, or_t, or_f, van_a, van_t, van_f, vor_a, vor_t, vor_f, vnt_a, vnt_k, ch_a, ch_ka, ch_kb, ch_t, ch_f, ch_k2, par_a, par_k, tg_a, tg_k, nx_k, b_nm, b_pr, b_tr, tr_k, e_nm, e_pr, for_a, for_k, call_a, any_a, items_l, items_t, idx_a, idx_k, idx_k2, no_a, some_a, some_k, sl_a, sl_k, sl_k1, sl_k2, get_a, get_k, get_k1, get_k2, run_a, run_rt, run_ro, run_nx, runo_a, runo_k, next_a, err_a, v0, v1, kD_ok, kD_err, vw_nil, th_nil, frz_nil, unS_fz, unS_no, unS_ow, List.map_cons, List.map_nil, List.set_cons_zero, List.set_cons_succ, startD, List.replicate, List.cons_append, List.nil_append, List.length_cons, List.length_nil, Nat.reduceAdd, Nat.reduceSub, dAdd_i, dSub_i, dOrd_i, bMin2_i, bMax2_i, tx0, tx1, tx2, tx3, lx0, lx1, comp_a, comp_k, comp_nil, comp_cons, comp_k1, comp_t, comp_f, comp_k3, comp_tt, pure_ok, wipe_nil, wipe_cons, en_a, en_k, enF_nil, enF_cons, zp_a, zp_l, zp_t, zpF_cons, zpF_nil, rg1_a, rg2_a, len_t, len_l, tuple_l, isi_ii, isi_bi, isi_tt, isi_ll, isi_ss, sl1, Bool.not_true, Bool.not_false, app_b, app_l, tix_a, tix_l, reto_a, reto_l, List.getElem?_cons_zero, List.getElem?_cons_succ, paro_a, paro_k, neg_i, rev_l, cut_l, told_a, told_ok, told_err, zp_m, compx_a, compx_k, tx_a, tx_k, q_flat_flat, q_flat_each, q_flat_base, q_flat_from, q_flat_packs, q_flat_gift, q_flat_least, q_flat_most, q_flat_off, q_each_flat, q_each_each, q_each_base, q_each_from, q_each_packs, q_each_gift, q_each_least, q_each_most, q_each_off, q_base_flat, q_base_each, q_base_base, q_base_from, q_base_packs, q_base_gift, q_base_least, q_base_most, q_base_off, q_from_flat, q_from_each, q_from_base, q_from_from, q_from_packs, q_from_gift, q_from_least, q_from_most, q_from_off, q_packs_flat, q_packs_each, q_packs_base, q_packs_from, q_packs_packs, q_packs_gift, q_packs_least, q_packs_most, q_packs_off, q_gift_flat, q_gift_each, q_gift_base, q_gift_from, q_gift_packs, q_gift_gift, q_gift_least, q_gift_most, q_gift_off, q_least_flat, q_least_each, q_least_base, q_least_from, q_least_packs, q_least_gift, q_least_least, q_least_most, q_least_off, q_most_flat, q_most_each, q_most_base, q_most_from, q_most_packs, q_most_gift, q_most_least, q_most_most, q_most_off, q_off_flat, q_off_each, q_off_base, q_off_from, q_off_packs, q_off_gift, q_off_least, q_off_most, q_off_off, in_flat, in_each, in_base, in_from, in_packs, in_gift, in_least, in_most, in_off, eo_flat, eo_each, eo_base, eo_from, eo_packs, eo_gift, eo_least, eo_most, eo_off, bd_flat, bd_each, bd_base, bd_from, bd_packs, bd_gift, bd_least, bd_most, bd_off, ne_flat, ne_each, ne_base, ne_from, ne_packs, ne_gift, ne_least, ne_most, ne_off, hl, e]
theorem z_base (a b m s : Int) (y : Sl) (l : List D) (hl : rg2K [.int 1, .int (m + 1)] = .ok l) (e : forL (.nm 4) L__law_cost_1 l [.fz (.tuple [.str "base", .int a, .int b]), .fz (.int m), .fz (.str "base"), .fz (.int 0), .no] = .ok (.nx [.fz (.tuple [.str "base", .int a, .int b]), .fz (.int m), .fz (.str "base"), .fz (.int s), y])) : F__law_cost [.tuple [.str "base", .int a, .int b], .int m] = .ok (.int (a + s)) := by
  simp only [F__law_cost, b__law_cost, seq_a, seq_nx, seq_rt, seq_ct, seq_bk, seq_err, if_a, if_t, if_f, asg_a, asg_k, own_a, own_k, lc_a, lc_k, ex_a, ex_k, rt_a, rt_k, op_a, op_k, op_k2, un_a, cons_a, cons_k, cons_k2, nil_a, c_a, tup_a, tup_k, lst_a, lst_k, bl_a, bl_k, eif_a, eif_t, eif_f, nt_a, nt_k, an_a, an_t, an_f, or_a, or_t, or_f, van_a, van_t, van_f, vor_a, vor_t, vor_f, vnt_a, vnt_k, ch_a, ch_ka, ch_kb, ch_t, ch_f, ch_k2, par_a, par_k, tg_a, tg_k, nx_k, b_nm, b_pr, b_tr, tr_k, e_nm, e_pr, for_a, for_k, call_a, any_a, items_l, items_t, idx_a, idx_k, idx_k2, no_a, some_a, some_k, sl_a, sl_k, sl_k1, sl_k2, get_a, get_k, get_k1, get_k2, run_a, run_rt, run_ro, run_nx, runo_a, runo_k, next_a, err_a, v0, v1, kD_ok, kD_err, vw_nil, th_nil, frz_nil, unS_fz, unS_no, unS_ow, List.map_cons, List.map_nil, List.set_cons_zero, List.set_cons_succ, startD, List.replicate, List.cons_append, List.nil_append, List.length_cons, List.length_nil, Nat.reduceAdd, Nat.reduceSub, dAdd_i, dSub_i, dOrd_i, bMin2_i, bMax2_i, tx0, tx1, tx2, tx3, lx0, lx1, comp_a, comp_k, comp_nil, comp_cons, comp_k1, comp_t, comp_f, comp_k3, comp_tt, pure_ok, wipe_nil, wipe_cons, en_a, en_k, enF_nil, enF_cons, zp_a, zp_l, zp_t, zpF_cons, zpF_nil, rg1_a, rg2_a, len_t, len_l, tuple_l, isi_ii, isi_bi, isi_tt, isi_ll, isi_ss, sl1, Bool.not_true, Bool.not_false, app_b, app_l, tix_a, tix_l, reto_a, reto_l, List.getElem?_cons_zero, List.getElem?_cons_succ, paro_a, paro_k, neg_i, rev_l, cut_l, told_a, told_ok, told_err, zp_m, compx_a, compx_k, tx_a, tx_k, q_flat_flat, q_flat_each, q_flat_base, q_flat_from, q_flat_packs, q_flat_gift, q_flat_least, q_flat_most, q_flat_off, q_each_flat, q_each_each, q_each_base, q_each_from, q_each_packs, q_each_gift, q_each_least, q_each_most, q_each_off, q_base_flat, q_base_each, q_base_base, q_base_from, q_base_packs, q_base_gift, q_base_least, q_base_most, q_base_off, q_from_flat, q_from_each, q_from_base, q_from_from, q_from_packs, q_from_gift, q_from_least, q_from_most, q_from_off, q_packs_flat, q_packs_each, q_packs_base, q_packs_from, q_packs_packs, q_packs_gift, q_packs_least, q_packs_most, q_packs_off, q_gift_flat, q_gift_each, q_gift_base, q_gift_from, q_gift_packs, q_gift_gift, q_gift_least, q_gift_most, q_gift_off, q_least_flat, q_least_each, q_least_base, q_least_from, q_least_packs, q_least_gift, q_least_least, q_least_most, q_least_off, q_most_flat, q_most_each, q_most_base, q_most_from, q_most_packs, q_most_gift, q_most_least, q_most_most, q_most_off, q_off_flat, q_off_each, q_off_base, q_off_from, q_off_packs, q_off_gift, q_off_least, q_off_most, q_off_off, in_flat, in_each, in_base, in_from, in_packs, in_gift, in_least, in_most, in_off, eo_flat, eo_each, eo_base, eo_from, eo_packs, eo_gift, eo_least, eo_most, eo_off, bd_flat, bd_each, bd_base, bd_from, bd_packs, bd_gift, bd_least, bd_most, bd_off, ne_flat, ne_each, ne_base, ne_from, ne_packs, ne_gift, ne_least, ne_most, ne_off, hl, e]
theorem z_frm (c n d m s : Int) (y : Sl) (l : List D) (hl : rg2K [.int 1, .int (m + 1)] = .ok l) (e : forL (.nm 4) L__law_cost_1 l [.fz (.tuple [.str "from", .int c, .int n, .int d]), .fz (.int m), .fz (.str "from"), .fz (.int 0), .no] = .ok (.nx [.fz (.tuple [.str "from", .int c, .int n, .int d]), .fz (.int m), .fz (.str "from"), .fz (.int s), y])) : F__law_cost [.tuple [.str "from", .int c, .int n, .int d], .int m] = .ok (.int (s)) := by
  simp only [F__law_cost, b__law_cost, seq_a, seq_nx, seq_rt, seq_ct, seq_bk, seq_err, if_a, if_t, if_f, asg_a, asg_k, own_a, own_k, lc_a, lc_k, ex_a, ex_k, rt_a, rt_k, op_a, op_k, op_k2, un_a, cons_a, cons_k, cons_k2, nil_a, c_a, tup_a, tup_k, lst_a, lst_k, bl_a, bl_k, eif_a, eif_t, eif_f, nt_a, nt_k, an_a, an_t, an_f, or_a, or_t, or_f, van_a, van_t, van_f, vor_a, vor_t, vor_f, vnt_a, vnt_k, ch_a, ch_ka, ch_kb, ch_t, ch_f, ch_k2, par_a, par_k, tg_a, tg_k, nx_k, b_nm, b_pr, b_tr, tr_k, e_nm, e_pr, for_a, for_k, call_a, any_a, items_l, items_t, idx_a, idx_k, idx_k2, no_a, some_a, some_k, sl_a, sl_k, sl_k1, sl_k2, get_a, get_k, get_k1, get_k2, run_a, run_rt, run_ro, run_nx, runo_a, runo_k, next_a, err_a, v0, v1, kD_ok, kD_err, vw_nil, th_nil, frz_nil, unS_fz, unS_no, unS_ow, List.map_cons, List.map_nil, List.set_cons_zero, List.set_cons_succ, startD, List.replicate, List.cons_append, List.nil_append, List.length_cons, List.length_nil, Nat.reduceAdd, Nat.reduceSub, dAdd_i, dSub_i, dOrd_i, bMin2_i, bMax2_i, tx0, tx1, tx2, tx3, lx0, lx1, comp_a, comp_k, comp_nil, comp_cons, comp_k1, comp_t, comp_f, comp_k3, comp_tt, pure_ok, wipe_nil, wipe_cons, en_a, en_k, enF_nil, enF_cons, zp_a, zp_l, zp_t, zpF_cons, zpF_nil, rg1_a, rg2_a, len_t, len_l, tuple_l, isi_ii, isi_bi, isi_tt, isi_ll, isi_ss, sl1, Bool.not_true, Bool.not_false, app_b, app_l, tix_a, tix_l, reto_a, reto_l, List.getElem?_cons_zero, List.getElem?_cons_succ, paro_a, paro_k, neg_i, rev_l, cut_l, told_a, told_ok, told_err, zp_m, compx_a, compx_k, tx_a, tx_k, q_flat_flat, q_flat_each, q_flat_base, q_flat_from, q_flat_packs, q_flat_gift, q_flat_least, q_flat_most, q_flat_off, q_each_flat, q_each_each, q_each_base, q_each_from, q_each_packs, q_each_gift, q_each_least, q_each_most, q_each_off, q_base_flat, q_base_each, q_base_base, q_base_from, q_base_packs, q_base_gift, q_base_least, q_base_most, q_base_off, q_from_flat, q_from_each, q_from_base, q_from_from, q_from_packs, q_from_gift, q_from_least, q_from_most, q_from_off, q_packs_flat, q_packs_each, q_packs_base, q_packs_from, q_packs_packs, q_packs_gift, q_packs_least, q_packs_most, q_packs_off, q_gift_flat, q_gift_each, q_gift_base, q_gift_from, q_gift_packs, q_gift_gift, q_gift_least, q_gift_most, q_gift_off, q_least_flat, q_least_each, q_least_base, q_least_from, q_least_packs, q_least_gift, q_least_least, q_least_most, q_least_off, q_most_flat, q_most_each, q_most_base, q_most_from, q_most_packs, q_most_gift, q_most_least, q_most_most, q_most_off, q_off_flat, q_off_each, q_off_base, q_off_from, q_off_packs, q_off_gift, q_off_least, q_off_most, q_off_off, in_flat, in_each, in_base, in_from, in_packs, in_gift, in_least, in_most, in_off, eo_flat, eo_each, eo_base, eo_from, eo_packs, eo_gift, eo_least, eo_most, eo_off, bd_flat, bd_each, bd_base, bd_from, bd_packs, bd_gift, bd_least, bd_most, bd_off, ne_flat, ne_each, ne_base, ne_from, ne_packs, ne_gift, ne_least, ne_most, ne_off, hl, e]
theorem z_packs (c n m s : Int) (y : Sl) (l : List D) (hl : rg2K [.int 1, .int (m + 1)] = .ok l) (e : forL (.nm 4) L__law_cost_1 l [.fz (.tuple [.str "packs", .int c, .int n]), .fz (.int m), .fz (.str "packs"), .fz (.int 0), .no] = .ok (.nx [.fz (.tuple [.str "packs", .int c, .int n]), .fz (.int m), .fz (.str "packs"), .fz (.int s), y])) : F__law_cost [.tuple [.str "packs", .int c, .int n], .int m] = .ok (.int (s)) := by
  simp only [F__law_cost, b__law_cost, seq_a, seq_nx, seq_rt, seq_ct, seq_bk, seq_err, if_a, if_t, if_f, asg_a, asg_k, own_a, own_k, lc_a, lc_k, ex_a, ex_k, rt_a, rt_k, op_a, op_k, op_k2, un_a, cons_a, cons_k, cons_k2, nil_a, c_a, tup_a, tup_k, lst_a, lst_k, bl_a, bl_k, eif_a, eif_t, eif_f, nt_a, nt_k, an_a, an_t, an_f, or_a, or_t, or_f, van_a, van_t, van_f, vor_a, vor_t, vor_f, vnt_a, vnt_k, ch_a, ch_ka, ch_kb, ch_t, ch_f, ch_k2, par_a, par_k, tg_a, tg_k, nx_k, b_nm, b_pr, b_tr, tr_k, e_nm, e_pr, for_a, for_k, call_a, any_a, items_l, items_t, idx_a, idx_k, idx_k2, no_a, some_a, some_k, sl_a, sl_k, sl_k1, sl_k2, get_a, get_k, get_k1, get_k2, run_a, run_rt, run_ro, run_nx, runo_a, runo_k, next_a, err_a, v0, v1, kD_ok, kD_err, vw_nil, th_nil, frz_nil, unS_fz, unS_no, unS_ow, List.map_cons, List.map_nil, List.set_cons_zero, List.set_cons_succ, startD, List.replicate, List.cons_append, List.nil_append, List.length_cons, List.length_nil, Nat.reduceAdd, Nat.reduceSub, dAdd_i, dSub_i, dOrd_i, bMin2_i, bMax2_i, tx0, tx1, tx2, tx3, lx0, lx1, comp_a, comp_k, comp_nil, comp_cons, comp_k1, comp_t, comp_f, comp_k3, comp_tt, pure_ok, wipe_nil, wipe_cons, en_a, en_k, enF_nil, enF_cons, zp_a, zp_l, zp_t, zpF_cons, zpF_nil, rg1_a, rg2_a, len_t, len_l, tuple_l, isi_ii, isi_bi, isi_tt, isi_ll, isi_ss, sl1, Bool.not_true, Bool.not_false, app_b, app_l, tix_a, tix_l, reto_a, reto_l, List.getElem?_cons_zero, List.getElem?_cons_succ, paro_a, paro_k, neg_i, rev_l, cut_l, told_a, told_ok, told_err, zp_m, compx_a, compx_k, tx_a, tx_k, q_flat_flat, q_flat_each, q_flat_base, q_flat_from, q_flat_packs, q_flat_gift, q_flat_least, q_flat_most, q_flat_off, q_each_flat, q_each_each, q_each_base, q_each_from, q_each_packs, q_each_gift, q_each_least, q_each_most, q_each_off, q_base_flat, q_base_each, q_base_base, q_base_from, q_base_packs, q_base_gift, q_base_least, q_base_most, q_base_off, q_from_flat, q_from_each, q_from_base, q_from_from, q_from_packs, q_from_gift, q_from_least, q_from_most, q_from_off, q_packs_flat, q_packs_each, q_packs_base, q_packs_from, q_packs_packs, q_packs_gift, q_packs_least, q_packs_most, q_packs_off, q_gift_flat, q_gift_each, q_gift_base, q_gift_from, q_gift_packs, q_gift_gift, q_gift_least, q_gift_most, q_gift_off, q_least_flat, q_least_each, q_least_base, q_least_from, q_least_packs, q_least_gift, q_least_least, q_least_most, q_least_off, q_most_flat, q_most_each, q_most_base, q_most_from, q_most_packs, q_most_gift, q_most_least, q_most_most, q_most_off, q_off_flat, q_off_each, q_off_base, q_off_from, q_off_packs, q_off_gift, q_off_least, q_off_most, q_off_off, in_flat, in_each, in_base, in_from, in_packs, in_gift, in_least, in_most, in_off, eo_flat, eo_each, eo_base, eo_from, eo_packs, eo_gift, eo_least, eo_most, eo_off, bd_flat, bd_each, bd_base, bd_from, bd_packs, bd_gift, bd_least, bd_most, bd_off, ne_flat, ne_each, ne_base, ne_from, ne_packs, ne_gift, ne_least, ne_most, ne_off, hl, e]
theorem z_gift (c n m s : Int) (y : Sl) (l : List D) (hl : rg2K [.int 1, .int (m + 1)] = .ok l) (e : forL (.nm 4) L__law_cost_1 l [.fz (.tuple [.str "gift", .int c, .int n]), .fz (.int m), .fz (.str "gift"), .fz (.int 0), .no] = .ok (.nx [.fz (.tuple [.str "gift", .int c, .int n]), .fz (.int m), .fz (.str "gift"), .fz (.int s), y])) : F__law_cost [.tuple [.str "gift", .int c, .int n], .int m] = .ok (.int (s)) := by
  simp only [F__law_cost, b__law_cost, seq_a, seq_nx, seq_rt, seq_ct, seq_bk, seq_err, if_a, if_t, if_f, asg_a, asg_k, own_a, own_k, lc_a, lc_k, ex_a, ex_k, rt_a, rt_k, op_a, op_k, op_k2, un_a, cons_a, cons_k, cons_k2, nil_a, c_a, tup_a, tup_k, lst_a, lst_k, bl_a, bl_k, eif_a, eif_t, eif_f, nt_a, nt_k, an_a, an_t, an_f, or_a, or_t, or_f, van_a, van_t, van_f, vor_a, vor_t, vor_f, vnt_a, vnt_k, ch_a, ch_ka, ch_kb, ch_t, ch_f, ch_k2, par_a, par_k, tg_a, tg_k, nx_k, b_nm, b_pr, b_tr, tr_k, e_nm, e_pr, for_a, for_k, call_a, any_a, items_l, items_t, idx_a, idx_k, idx_k2, no_a, some_a, some_k, sl_a, sl_k, sl_k1, sl_k2, get_a, get_k, get_k1, get_k2, run_a, run_rt, run_ro, run_nx, runo_a, runo_k, next_a, err_a, v0, v1, kD_ok, kD_err, vw_nil, th_nil, frz_nil, unS_fz, unS_no, unS_ow, List.map_cons, List.map_nil, List.set_cons_zero, List.set_cons_succ, startD, List.replicate, List.cons_append, List.nil_append, List.length_cons, List.length_nil, Nat.reduceAdd, Nat.reduceSub, dAdd_i, dSub_i, dOrd_i, bMin2_i, bMax2_i, tx0, tx1, tx2, tx3, lx0, lx1, comp_a, comp_k, comp_nil, comp_cons, comp_k1, comp_t, comp_f, comp_k3, comp_tt, pure_ok, wipe_nil, wipe_cons, en_a, en_k, enF_nil, enF_cons, zp_a, zp_l, zp_t, zpF_cons, zpF_nil, rg1_a, rg2_a, len_t, len_l, tuple_l, isi_ii, isi_bi, isi_tt, isi_ll, isi_ss, sl1, Bool.not_true, Bool.not_false, app_b, app_l, tix_a, tix_l, reto_a, reto_l, List.getElem?_cons_zero, List.getElem?_cons_succ, paro_a, paro_k, neg_i, rev_l, cut_l, told_a, told_ok, told_err, zp_m, compx_a, compx_k, tx_a, tx_k, q_flat_flat, q_flat_each, q_flat_base, q_flat_from, q_flat_packs, q_flat_gift, q_flat_least, q_flat_most, q_flat_off, q_each_flat, q_each_each, q_each_base, q_each_from, q_each_packs, q_each_gift, q_each_least, q_each_most, q_each_off, q_base_flat, q_base_each, q_base_base, q_base_from, q_base_packs, q_base_gift, q_base_least, q_base_most, q_base_off, q_from_flat, q_from_each, q_from_base, q_from_from, q_from_packs, q_from_gift, q_from_least, q_from_most, q_from_off, q_packs_flat, q_packs_each, q_packs_base, q_packs_from, q_packs_packs, q_packs_gift, q_packs_least, q_packs_most, q_packs_off, q_gift_flat, q_gift_each, q_gift_base, q_gift_from, q_gift_packs, q_gift_gift, q_gift_least, q_gift_most, q_gift_off, q_least_flat, q_least_each, q_least_base, q_least_from, q_least_packs, q_least_gift, q_least_least, q_least_most, q_least_off, q_most_flat, q_most_each, q_most_base, q_most_from, q_most_packs, q_most_gift, q_most_least, q_most_most, q_most_off, q_off_flat, q_off_each, q_off_base, q_off_from, q_off_packs, q_off_gift, q_off_least, q_off_most, q_off_off, in_flat, in_each, in_base, in_from, in_packs, in_gift, in_least, in_most, in_off, eo_flat, eo_each, eo_base, eo_from, eo_packs, eo_gift, eo_least, eo_most, eo_off, bd_flat, bd_each, bd_base, bd_from, bd_packs, bd_gift, bd_least, bd_most, bd_off, ne_flat, ne_each, ne_base, ne_from, ne_packs, ne_gift, ne_least, ne_most, ne_off, hl, e]
theorem z_least (a b m s : Int) (y : Sl) (l : List D) (hl : rg2K [.int 1, .int (m + 1)] = .ok l) (e : forL (.nm 4) L__law_cost_1 l [.fz (.tuple [.str "least", .int a, .int b]), .fz (.int m), .fz (.str "least"), .fz (.int 0), .no] = .ok (.nx [.fz (.tuple [.str "least", .int a, .int b]), .fz (.int m), .fz (.str "least"), .fz (.int s), y])) : F__law_cost [.tuple [.str "least", .int a, .int b], .int m] = .ok (.int (if a ≤ s then s else a)) := by
  simp only [F__law_cost, b__law_cost, seq_a, seq_nx, seq_rt, seq_ct, seq_bk, seq_err, if_a, if_t, if_f, asg_a, asg_k, own_a, own_k, lc_a, lc_k, ex_a, ex_k, rt_a, rt_k, op_a, op_k, op_k2, un_a, cons_a, cons_k, cons_k2, nil_a, c_a, tup_a, tup_k, lst_a, lst_k, bl_a, bl_k, eif_a, eif_t, eif_f, nt_a, nt_k, an_a, an_t, an_f, or_a, or_t, or_f, van_a, van_t, van_f, vor_a, vor_t, vor_f, vnt_a, vnt_k, ch_a, ch_ka, ch_kb, ch_t, ch_f, ch_k2, par_a, par_k, tg_a, tg_k, nx_k, b_nm, b_pr, b_tr, tr_k, e_nm, e_pr, for_a, for_k, call_a, any_a, items_l, items_t, idx_a, idx_k, idx_k2, no_a, some_a, some_k, sl_a, sl_k, sl_k1, sl_k2, get_a, get_k, get_k1, get_k2, run_a, run_rt, run_ro, run_nx, runo_a, runo_k, next_a, err_a, v0, v1, kD_ok, kD_err, vw_nil, th_nil, frz_nil, unS_fz, unS_no, unS_ow, List.map_cons, List.map_nil, List.set_cons_zero, List.set_cons_succ, startD, List.replicate, List.cons_append, List.nil_append, List.length_cons, List.length_nil, Nat.reduceAdd, Nat.reduceSub, dAdd_i, dSub_i, dOrd_i, bMin2_i, bMax2_i, tx0, tx1, tx2, tx3, lx0, lx1, comp_a, comp_k, comp_nil, comp_cons, comp_k1, comp_t, comp_f, comp_k3, comp_tt, pure_ok, wipe_nil, wipe_cons, en_a, en_k, enF_nil, enF_cons, zp_a, zp_l, zp_t, zpF_cons, zpF_nil, rg1_a, rg2_a, len_t, len_l, tuple_l, isi_ii, isi_bi, isi_tt, isi_ll, isi_ss, sl1, Bool.not_true, Bool.not_false, app_b, app_l, tix_a, tix_l, reto_a, reto_l, List.getElem?_cons_zero, List.getElem?_cons_succ, paro_a, paro_k, neg_i, rev_l, cut_l, told_a, told_ok, told_err, zp_m, compx_a, compx_k, tx_a, tx_k, q_flat_flat, q_flat_each, q_flat_base, q_flat_from, q_flat_packs, q_flat_gift, q_flat_least, q_flat_most, q_flat_off, q_each_flat, q_each_each, q_each_base, q_each_from, q_each_packs, q_each_gift, q_each_least, q_each_most, q_each_off, q_base_flat, q_base_each, q_base_base, q_base_from, q_base_packs, q_base_gift, q_base_least, q_base_most, q_base_off, q_from_flat, q_from_each, q_from_base, q_from_from, q_from_packs, q_from_gift, q_from_least, q_from_most, q_from_off, q_packs_flat, q_packs_each, q_packs_base, q_packs_from, q_packs_packs, q_packs_gift, q_packs_least, q_packs_most, q_packs_off, q_gift_flat, q_gift_each, q_gift_base, q_gift_from, q_gift_packs, q_gift_gift, q_gift_least, q_gift_most, q_gift_off, q_least_flat, q_least_each, q_least_base, q_least_from, q_least_packs, q_least_gift, q_least_least, q_least_most, q_least_off, q_most_flat, q_most_each, q_most_base, q_most_from, q_most_packs, q_most_gift, q_most_least, q_most_most, q_most_off, q_off_flat, q_off_each, q_off_base, q_off_from, q_off_packs, q_off_gift, q_off_least, q_off_most, q_off_off, in_flat, in_each, in_base, in_from, in_packs, in_gift, in_least, in_most, in_off, eo_flat, eo_each, eo_base, eo_from, eo_packs, eo_gift, eo_least, eo_most, eo_off, bd_flat, bd_each, bd_base, bd_from, bd_packs, bd_gift, bd_least, bd_most, bd_off, ne_flat, ne_each, ne_base, ne_from, ne_packs, ne_gift, ne_least, ne_most, ne_off, hl, e, sort2, ifx1]
theorem z_most (a b m s : Int) (y : Sl) (l : List D) (hl : rg2K [.int 1, .int (m + 1)] = .ok l) (e : forL (.nm 4) L__law_cost_1 l [.fz (.tuple [.str "most", .int a, .int b]), .fz (.int m), .fz (.str "most"), .fz (.int 0), .no] = .ok (.nx [.fz (.tuple [.str "most", .int a, .int b]), .fz (.int m), .fz (.str "most"), .fz (.int s), y])) (h5 : dMul (.int 5) (.int a) = .ok (.int (5 * a))) : F__law_cost [.tuple [.str "most", .int a, .int b], .int m] = .ok (.int (if 5 * a ≤ s then 5 * a else s)) := by
  simp only [F__law_cost, b__law_cost, seq_a, seq_nx, seq_rt, seq_ct, seq_bk, seq_err, if_a, if_t, if_f, asg_a, asg_k, own_a, own_k, lc_a, lc_k, ex_a, ex_k, rt_a, rt_k, op_a, op_k, op_k2, un_a, cons_a, cons_k, cons_k2, nil_a, c_a, tup_a, tup_k, lst_a, lst_k, bl_a, bl_k, eif_a, eif_t, eif_f, nt_a, nt_k, an_a, an_t, an_f, or_a, or_t, or_f, van_a, van_t, van_f, vor_a, vor_t, vor_f, vnt_a, vnt_k, ch_a, ch_ka, ch_kb, ch_t, ch_f, ch_k2, par_a, par_k, tg_a, tg_k, nx_k, b_nm, b_pr, b_tr, tr_k, e_nm, e_pr, for_a, for_k, call_a, any_a, items_l, items_t, idx_a, idx_k, idx_k2, no_a, some_a, some_k, sl_a, sl_k, sl_k1, sl_k2, get_a, get_k, get_k1, get_k2, run_a, run_rt, run_ro, run_nx, runo_a, runo_k, next_a, err_a, v0, v1, kD_ok, kD_err, vw_nil, th_nil, frz_nil, unS_fz, unS_no, unS_ow, List.map_cons, List.map_nil, List.set_cons_zero, List.set_cons_succ, startD, List.replicate, List.cons_append, List.nil_append, List.length_cons, List.length_nil, Nat.reduceAdd, Nat.reduceSub, dAdd_i, dSub_i, dOrd_i, bMin2_i, bMax2_i, tx0, tx1, tx2, tx3, lx0, lx1, comp_a, comp_k, comp_nil, comp_cons, comp_k1, comp_t, comp_f, comp_k3, comp_tt, pure_ok, wipe_nil, wipe_cons, en_a, en_k, enF_nil, enF_cons, zp_a, zp_l, zp_t, zpF_cons, zpF_nil, rg1_a, rg2_a, len_t, len_l, tuple_l, isi_ii, isi_bi, isi_tt, isi_ll, isi_ss, sl1, Bool.not_true, Bool.not_false, app_b, app_l, tix_a, tix_l, reto_a, reto_l, List.getElem?_cons_zero, List.getElem?_cons_succ, paro_a, paro_k, neg_i, rev_l, cut_l, told_a, told_ok, told_err, zp_m, compx_a, compx_k, tx_a, tx_k, q_flat_flat, q_flat_each, q_flat_base, q_flat_from, q_flat_packs, q_flat_gift, q_flat_least, q_flat_most, q_flat_off, q_each_flat, q_each_each, q_each_base, q_each_from, q_each_packs, q_each_gift, q_each_least, q_each_most, q_each_off, q_base_flat, q_base_each, q_base_base, q_base_from, q_base_packs, q_base_gift, q_base_least, q_base_most, q_base_off, q_from_flat, q_from_each, q_from_base, q_from_from, q_from_packs, q_from_gift, q_from_least, q_from_most, q_from_off, q_packs_flat, q_packs_each, q_packs_base, q_packs_from, q_packs_packs, q_packs_gift, q_packs_least, q_packs_most, q_packs_off, q_gift_flat, q_gift_each, q_gift_base, q_gift_from, q_gift_packs, q_gift_gift, q_gift_least, q_gift_most, q_gift_off, q_least_flat, q_least_each, q_least_base, q_least_from, q_least_packs, q_least_gift, q_least_least, q_least_most, q_least_off, q_most_flat, q_most_each, q_most_base, q_most_from, q_most_packs, q_most_gift, q_most_least, q_most_most, q_most_off, q_off_flat, q_off_each, q_off_base, q_off_from, q_off_packs, q_off_gift, q_off_least, q_off_most, q_off_off, in_flat, in_each, in_base, in_from, in_packs, in_gift, in_least, in_most, in_off, eo_flat, eo_each, eo_base, eo_from, eo_packs, eo_gift, eo_least, eo_most, eo_off, bd_flat, bd_each, bd_base, bd_from, bd_packs, bd_gift, bd_least, bd_most, bd_off, ne_flat, ne_each, ne_base, ne_from, ne_packs, ne_gift, ne_least, ne_most, ne_off, hl, e, h5, sort2, ifx0]
theorem z_off (c n d m s : Int) (y : Sl) (l : List D) (hl : rg2K [.int 1, .int (m + 1)] = .ok l) (e : forL (.nm 4) L__law_cost_1 l [.fz (.tuple [.str "off", .int c, .int n, .int d]), .fz (.int m), .fz (.str "off"), .fz (.int 0), .no] = .ok (.nx [.fz (.tuple [.str "off", .int c, .int n, .int d]), .fz (.int m), .fz (.str "off"), .fz (.int s), y])) : F__law_cost [.tuple [.str "off", .int c, .int n, .int d], .int m] = .ok (.int (if n ≤ m then (if 0 ≤ s - d then s - d else 0) else s)) := by
  by_cases hn : n ≤ m
  · have e2 : pGe m n = true := decide_eq_true hn
    rw [if_pos hn]
    simp only [F__law_cost, b__law_cost, seq_a, seq_nx, seq_rt, seq_ct, seq_bk, seq_err, if_a, if_t, if_f, asg_a, asg_k, own_a, own_k, lc_a, lc_k, ex_a, ex_k, rt_a, rt_k, op_a, op_k, op_k2, un_a, cons_a, cons_k, cons_k2, nil_a, c_a, tup_a, tup_k, lst_a, lst_k, bl_a, bl_k, eif_a, eif_t, eif_f, nt_a, nt_k, an_a, an_t, an_f, or_a, or_t, or_f, van_a, van_t, van_f, vor_a, vor_t, vor_f, vnt_a, vnt_k, ch_a, ch_ka, ch_kb, ch_t, ch_f, ch_k2, par_a, par_k, tg_a, tg_k, nx_k, b_nm, b_pr, b_tr, tr_k, e_nm, e_pr, for_a, for_k, call_a, any_a, items_l, items_t, idx_a, idx_k, idx_k2, no_a, some_a, some_k, sl_a, sl_k, sl_k1, sl_k2, get_a, get_k, get_k1, get_k2, run_a, run_rt, run_ro, run_nx, runo_a, runo_k, next_a, err_a, v0, v1, kD_ok, kD_err, vw_nil, th_nil, frz_nil, unS_fz, unS_no, unS_ow, List.map_cons, List.map_nil, List.set_cons_zero, List.set_cons_succ, startD, List.replicate, List.cons_append, List.nil_append, List.length_cons, List.length_nil, Nat.reduceAdd, Nat.reduceSub, dAdd_i, dSub_i, dOrd_i, bMin2_i, bMax2_i, tx0, tx1, tx2, tx3, lx0, lx1, comp_a, comp_k, comp_nil, comp_cons, comp_k1, comp_t, comp_f, comp_k3, comp_tt, pure_ok, wipe_nil, wipe_cons, en_a, en_k, enF_nil, enF_cons, zp_a, zp_l, zp_t, zpF_cons, zpF_nil, rg1_a, rg2_a, len_t, len_l, tuple_l, isi_ii, isi_bi, isi_tt, isi_ll, isi_ss, sl1, Bool.not_true, Bool.not_false, app_b, app_l, tix_a, tix_l, reto_a, reto_l, List.getElem?_cons_zero, List.getElem?_cons_succ, paro_a, paro_k, neg_i, rev_l, cut_l, told_a, told_ok, told_err, zp_m, compx_a, compx_k, tx_a, tx_k, q_flat_flat, q_flat_each, q_flat_base, q_flat_from, q_flat_packs, q_flat_gift, q_flat_least, q_flat_most, q_flat_off, q_each_flat, q_each_each, q_each_base, q_each_from, q_each_packs, q_each_gift, q_each_least, q_each_most, q_each_off, q_base_flat, q_base_each, q_base_base, q_base_from, q_base_packs, q_base_gift, q_base_least, q_base_most, q_base_off, q_from_flat, q_from_each, q_from_base, q_from_from, q_from_packs, q_from_gift, q_from_least, q_from_most, q_from_off, q_packs_flat, q_packs_each, q_packs_base, q_packs_from, q_packs_packs, q_packs_gift, q_packs_least, q_packs_most, q_packs_off, q_gift_flat, q_gift_each, q_gift_base, q_gift_from, q_gift_packs, q_gift_gift, q_gift_least, q_gift_most, q_gift_off, q_least_flat, q_least_each, q_least_base, q_least_from, q_least_packs, q_least_gift, q_least_least, q_least_most, q_least_off, q_most_flat, q_most_each, q_most_base, q_most_from, q_most_packs, q_most_gift, q_most_least, q_most_most, q_most_off, q_off_flat, q_off_each, q_off_base, q_off_from, q_off_packs, q_off_gift, q_off_least, q_off_most, q_off_off, in_flat, in_each, in_base, in_from, in_packs, in_gift, in_least, in_most, in_off, eo_flat, eo_each, eo_base, eo_from, eo_packs, eo_gift, eo_least, eo_most, eo_off, bd_flat, bd_each, bd_base, bd_from, bd_packs, bd_gift, bd_least, bd_most, bd_off, ne_flat, ne_each, ne_base, ne_from, ne_packs, ne_gift, ne_least, ne_most, ne_off, hl, e, e2, sort2, ifx1]
  · have e2 : pGe m n = false := decide_eq_false hn
    rw [if_neg hn]
    simp only [F__law_cost, b__law_cost, seq_a, seq_nx, seq_rt, seq_ct, seq_bk, seq_err, if_a, if_t, if_f, asg_a, asg_k, own_a, own_k, lc_a, lc_k, ex_a, ex_k, rt_a, rt_k, op_a, op_k, op_k2, un_a, cons_a, cons_k, cons_k2, nil_a, c_a, tup_a, tup_k, lst_a, lst_k, bl_a, bl_k, eif_a, eif_t, eif_f, nt_a, nt_k, an_a, an_t, an_f, or_a, or_t, or_f, van_a, van_t, van_f, vor_a, vor_t, vor_f, vnt_a, vnt_k, ch_a, ch_ka, ch_kb, ch_t, ch_f, ch_k2, par_a, par_k, tg_a, tg_k, nx_k, b_nm, b_pr, b_tr, tr_k, e_nm, e_pr, for_a, for_k, call_a, any_a, items_l, items_t, idx_a, idx_k, idx_k2, no_a, some_a, some_k, sl_a, sl_k, sl_k1, sl_k2, get_a, get_k, get_k1, get_k2, run_a, run_rt, run_ro, run_nx, runo_a, runo_k, next_a, err_a, v0, v1, kD_ok, kD_err, vw_nil, th_nil, frz_nil, unS_fz, unS_no, unS_ow, List.map_cons, List.map_nil, List.set_cons_zero, List.set_cons_succ, startD, List.replicate, List.cons_append, List.nil_append, List.length_cons, List.length_nil, Nat.reduceAdd, Nat.reduceSub, dAdd_i, dSub_i, dOrd_i, bMin2_i, bMax2_i, tx0, tx1, tx2, tx3, lx0, lx1, comp_a, comp_k, comp_nil, comp_cons, comp_k1, comp_t, comp_f, comp_k3, comp_tt, pure_ok, wipe_nil, wipe_cons, en_a, en_k, enF_nil, enF_cons, zp_a, zp_l, zp_t, zpF_cons, zpF_nil, rg1_a, rg2_a, len_t, len_l, tuple_l, isi_ii, isi_bi, isi_tt, isi_ll, isi_ss, sl1, Bool.not_true, Bool.not_false, app_b, app_l, tix_a, tix_l, reto_a, reto_l, List.getElem?_cons_zero, List.getElem?_cons_succ, paro_a, paro_k, neg_i, rev_l, cut_l, told_a, told_ok, told_err, zp_m, compx_a, compx_k, tx_a, tx_k, q_flat_flat, q_flat_each, q_flat_base, q_flat_from, q_flat_packs, q_flat_gift, q_flat_least, q_flat_most, q_flat_off, q_each_flat, q_each_each, q_each_base, q_each_from, q_each_packs, q_each_gift, q_each_least, q_each_most, q_each_off, q_base_flat, q_base_each, q_base_base, q_base_from, q_base_packs, q_base_gift, q_base_least, q_base_most, q_base_off, q_from_flat, q_from_each, q_from_base, q_from_from, q_from_packs, q_from_gift, q_from_least, q_from_most, q_from_off, q_packs_flat, q_packs_each, q_packs_base, q_packs_from, q_packs_packs, q_packs_gift, q_packs_least, q_packs_most, q_packs_off, q_gift_flat, q_gift_each, q_gift_base, q_gift_from, q_gift_packs, q_gift_gift, q_gift_least, q_gift_most, q_gift_off, q_least_flat, q_least_each, q_least_base, q_least_from, q_least_packs, q_least_gift, q_least_least, q_least_most, q_least_off, q_most_flat, q_most_each, q_most_base, q_most_from, q_most_packs, q_most_gift, q_most_least, q_most_most, q_most_off, q_off_flat, q_off_each, q_off_base, q_off_from, q_off_packs, q_off_gift, q_off_least, q_off_most, q_off_off, in_flat, in_each, in_base, in_from, in_packs, in_gift, in_least, in_most, in_off, eo_flat, eo_each, eo_base, eo_from, eo_packs, eo_gift, eo_least, eo_most, eo_off, bd_flat, bd_each, bd_base, bd_from, bd_packs, bd_gift, bd_least, bd_most, bd_off, ne_flat, ne_each, ne_base, ne_from, ne_packs, ne_gift, ne_least, ne_most, ne_off, hl, e, e2]
theorem cost_ok (r : Rl) (h : r.ok) (m : Nat) (hm : m ≤ 20) : F__law_cost [r.D, .int m] = .ok (.int (r.pr m)) := by
  cases r with
  | flat c => exact z_flat c m
  | each c =>
    obtain ⟨y, e⟩ := loop_ok (.each c) h (fun _ q => by cases q) m m .no
    exact (z_each c m _ y _ (rgm m hm) e).trans (congrArg (fun x => R.ok (PyData.int x)) (f_each c h m (by omega)))
  | base a b =>
    obtain ⟨y, e⟩ := loop_ok (.base a b) h (fun _ q => by cases q) m m .no
    exact (z_base a b m _ y _ (rgm m hm) e).trans (congrArg (fun x => R.ok (PyData.int x)) (f_base a h.1 b h.2 m (by omega)))
  | frm c n d =>
    obtain ⟨y, e⟩ := loop_ok (.frm c n d) h (fun _ q => by cases q) m m .no
    exact (z_frm c n d m _ y _ (rgm m hm) e).trans (congrArg (fun x => R.ok (PyData.int x)) (f_frm c h.1 n h.2.1.2 d h.2.2 m (by omega) h.2.1.1))
  | packs c n =>
    obtain ⟨y, e⟩ := loop_ok (.packs c n) h (fun _ q => by cases q) m m .no
    exact (z_packs c n m _ y _ (rgm m hm) e).trans (congrArg (fun x => R.ok (PyData.int x)) (f_packs c h.1 n h.2.2 m (by omega) h.2.1))
  | gift c n =>
    obtain ⟨y, e⟩ := loop_ok (.gift c n) h (fun _ q => by cases q) m m .no
    exact (z_gift c n m _ y _ (rgm m hm) e).trans (congrArg (fun x => R.ok (PyData.int x)) (f_gift c h.1 n h.2.2 m (by omega) h.2.1))
  | least a b =>
    obtain ⟨y, e⟩ := loop_ok (.least a b) h (fun _ q => by cases q) m m .no
    exact (z_least a b m _ y _ (rgm m hm) e).trans (congrArg (fun x => R.ok (PyData.int x)) (f_least a h.1 b h.2 m (by omega)))
  | most a b =>
    obtain ⟨y, e⟩ := loop_ok (.most a b) h (fun _ q => by cases q) m m .no
    exact (z_most a b m _ y _ (rgm m hm) e (dmul_5 h.1)).trans (congrArg (fun x => R.ok (PyData.int x)) (f_most a h.1 b h.2 m (by omega)))
  | off c n d =>
    obtain ⟨y, e⟩ := loop_ok (.off c n d) h (fun _ q => by cases q) m m .no
    exact (z_off c n d m _ y _ (rgm m hm) e).trans (congrArg (fun x => R.ok (PyData.int x)) (f_off c h.1 n h.2.1.2 d h.2.2 m (by omega) h.2.1.1))
end DL.K30
set_option Elab.async false
set_option linter.all false
set_option maxRecDepth 100000
set_option maxHeartbeats 4000000
/-! P2a: what is drawn: numbers, bounds. -/
namespace DL.K30
open PySem PySem.Spec PyProof.Rows L2 RZ DL
theorem lit64 {i j : Int} (h : -(2 ^ 64) < j ∧ j < 2 ^ 64) : dMul (.int i) (.int j) = .ok (.int (i * j)) := dMul_i (.inl (.inr h))
theorem nat200 {x : Int} (h : 0 ≤ x ∧ x < 2 ^ 200) : x.natAbs < 2 ^ 1000 := by
  have h1 : x.natAbs < 2 ^ 200 := by omega
  exact Nat.lt_of_lt_of_le h1 (Nat.pow_le_pow_right (by decide) (by decide))
theorem mulB {x y : Int} (hx : 0 ≤ x ∧ x < 2 ^ 200) (hy : 0 ≤ y ∧ y < 2 ^ 200) : dMul (.int x) (.int y) = .ok (.int (x * y)) := dMul_i (.inr ⟨nat200 hx, nat200 hy⟩)
theorem fdvQ (x : Int) : dFdiv (.int x) (.int 18446744073709551557) = .ok (.int (x / 18446744073709551557)) := dFdiv_i ⟨by decide, nat200 (by decide)⟩
theorem modQ (x : Int) : dMod (.int x) (.int 18446744073709551557) = .ok (.int (x % 18446744073709551557)) := dMod_i (by decide)
theorem modA (x : Int) : dMod (.int x) (.int 340282366920938463463374607431768211507) = .ok (.int (x % 340282366920938463463374607431768211507)) := dMod_i (by decide)
theorem modB (x : Int) : dMod (.int x) (.int 340282366920938463463374607431768211297) = .ok (.int (x % 340282366920938463463374607431768211297)) := dMod_i (by decide)
theorem drawn_ev (a k x1 x2 : Int) (h1 : dMul (.int a) (.int 6364136223846793005) = .ok (.int (a * 6364136223846793005))) (h2 : dMul (.int (k + 1)) (.int 1442695040888963407) = .ok (.int ((k + 1) * 1442695040888963407)))
    (e1 : (a * 6364136223846793005 + (k + 1) * 1442695040888963407) % 340282366920938463463374607431768211507 = x1) (h3 : dMul (.int x1) (.int x1) = .ok (.int (x1 * x1))) (e2 : (x1 * x1) % 340282366920938463463374607431768211297 = x2)
    (h4 : dMul (.int (x2 % 18446744073709551557 + 1)) (.int (x2 / 18446744073709551557 + 1)) = .ok (.int ((x2 % 18446744073709551557 + 1) * (x2 / 18446744073709551557 + 1))))
    (h5 : dMul (.int ((x2 % 18446744073709551557 + 1) * (x2 / 18446744073709551557 + 1))) (.int x2) = .ok (.int ((x2 % 18446744073709551557 + 1) * (x2 / 18446744073709551557 + 1) * x2))) :
    F__law_drawn [.int a, .int k] = .ok (.int (((x2 % 18446744073709551557 + 1) * (x2 / 18446744073709551557 + 1) * x2) % 340282366920938463463374607431768211507)) := by
  simp only [F__law_drawn, b__law_drawn, seq_a, seq_nx, seq_rt, seq_ct, seq_bk, seq_err, if_a, if_t, if_f, asg_a, asg_k, own_a, own_k, lc_a, lc_k, ex_a, ex_k, rt_a, rt_k, op_a, op_k, op_k2, un_a, cons_a, cons_k, cons_k2, nil_a, c_a, tup_a, tup_k, lst_a, lst_k, bl_a, bl_k, eif_a, eif_t, eif_f, nt_a, nt_k, an_a, an_t, an_f, or_a, or_t, or_f, van_a, van_t, van_f, vor_a, vor_t, vor_f, vnt_a, vnt_k, ch_a, ch_ka, ch_kb, ch_t, ch_f, ch_k2, par_a, par_k, tg_a, tg_k, nx_k, b_nm, b_pr, b_tr, tr_k, e_nm, e_pr, for_a, for_k, call_a, any_a, items_l, items_t, idx_a, idx_k, idx_k2, no_a, some_a, some_k, sl_a, sl_k, sl_k1, sl_k2, get_a, get_k, get_k1, get_k2, run_a, run_rt, run_ro, run_nx, runo_a, runo_k, next_a, err_a, v0, v1, kD_ok, kD_err, vw_nil, th_nil, frz_nil, unS_fz, unS_no, unS_ow, List.map_cons, List.map_nil, List.set_cons_zero, List.set_cons_succ, startD, List.replicate, List.cons_append, List.nil_append, List.length_cons, List.length_nil, Nat.reduceAdd, Nat.reduceSub, dAdd_i, dSub_i, dOrd_i, bMin2_i, bMax2_i, tx0, tx1, tx2, tx3, lx0, lx1, comp_a, comp_k, comp_nil, comp_cons, comp_k1, comp_t, comp_f, comp_k3, comp_tt, pure_ok, wipe_nil, wipe_cons, en_a, en_k, enF_nil, enF_cons, zp_a, zp_l, zp_t, zpF_cons, zpF_nil, rg1_a, rg2_a, len_t, len_l, tuple_l, isi_ii, isi_bi, isi_tt, isi_ll, isi_ss, sl1, Bool.not_true, Bool.not_false, app_b, app_l, tix_a, tix_l, reto_a, reto_l, List.getElem?_cons_zero, List.getElem?_cons_succ, paro_a, paro_k, neg_i, rev_l, cut_l, told_a, told_ok, told_err, zp_m, compx_a, compx_k, tx_a, tx_k, h1, h2, h3, h4, h5, modA, modB, modQ, fdvQ, e1, e2]
theorem drawn_ok (a k : Int) : ∃ v : Int, 0 ≤ v ∧ F__law_drawn [.int a, .int k] = .ok (.int v) := by
  obtain ⟨x1, e1⟩ : ∃ x1, (a * 6364136223846793005 + (k + 1) * 1442695040888963407) % 340282366920938463463374607431768211507 = x1 := ⟨_, rfl⟩
  obtain ⟨x2, e2⟩ : ∃ x2, (x1 * x1) % 340282366920938463463374607431768211297 = x2 := ⟨_, rfl⟩
  have b1 : 0 ≤ x1 ∧ x1 < 2 ^ 200 := by omega
  have b2 : 0 ≤ x2 ∧ x2 < 340282366920938463463374607431768211297 := by
    rw [← e2]
    exact ⟨Int.emod_nonneg _ (by decide), Int.emod_lt_of_pos _ (by decide)⟩
  have b3 : 0 ≤ x2 % 18446744073709551557 + 1 ∧ x2 % 18446744073709551557 + 1 < 2 ^ 65 := by omega
  have b4 : 0 ≤ x2 / 18446744073709551557 + 1 ∧ x2 / 18446744073709551557 + 1 < 2 ^ 70 := by omega
  have b5 : 0 ≤ (x2 % 18446744073709551557 + 1) * (x2 / 18446744073709551557 + 1) ∧ (x2 % 18446744073709551557 + 1) * (x2 / 18446744073709551557 + 1) < 2 ^ 200 := by
    refine ⟨Int.mul_nonneg b3.1 b4.1, ?_⟩
    have q := Int.mul_le_mul (Int.le_of_lt b3.2) (Int.le_of_lt b4.2) b4.1 (by decide)
    exact Int.lt_of_le_of_lt q (by decide)
  refine ⟨_, Int.emod_nonneg _ (by decide), drawn_ev a k x1 x2 (lit64 ⟨by decide, by decide⟩) (lit64 ⟨by decide, by decide⟩) e1 (mulB b1 b1) e2 (mulB ⟨b3.1, by omega⟩ ⟨b4.1, by omega⟩) (mulB b5 ⟨b2.1, by omega⟩)⟩
theorem shp_ints (ns : List Int) : SeqAt.shaped (.list (ns.map PyData.int)) = true := by
  have h1 : ∀ l : List Int, PyData.canLayAll0 (l.map PyData.int) = true := by
    intro l
    induction l with
    | nil => simp [PyData.canLayAll0]
    | cons x r ih => simp [PyData.canLayAll0, PyData.canLay0, ih]
  have h2 : PyData.depthAll (ns.map PyData.int) = 0 := PySem.W.depth_ints ns
  simp [SeqAt.shaped, PyData.canLay0, PyData.depth, h1, h2]
theorem eq_nil (x : D) (l : List D) (h : SeqAt.shaped (.list (x :: l)) = true) : dEq (.list (x :: l)) (.list []) = .ok (.bool false) := by
  unfold dEq
  rw [if_pos ⟨h, by kernel_rfl⟩]
  simp [PyData.eqv, PyData.eqvAll]
theorem eq_nils : dEq (.list []) (.list []) = .ok (.bool true) := by kernel_rfl
theorem cell_ev (l : List D) (k n i v q : Int) (h0 : dEq (.list l) (.list []) = .ok (.bool false)) (h1 : dMod (.int k) (.int (l.length : Nat)) = .ok (.int i)) (h2 : dIx (.list l) (.int i) = .ok (.int v)) (h3 : dFdiv (.int k) (.int (l.length : Nat)) = .ok (.int q)) (h4 : dMul (.int q) (.int 104729) = .ok (.int (q * 104729))) :
    F__law_cell [.list l, .int k] = .ok (.int (v + q * 104729)) := by
  simp only [F__law_cell, b__law_cell, seq_a, seq_nx, seq_rt, seq_ct, seq_bk, seq_err, if_a, if_t, if_f, asg_a, asg_k, own_a, own_k, lc_a, lc_k, ex_a, ex_k, rt_a, rt_k, op_a, op_k, op_k2, un_a, cons_a, cons_k, cons_k2, nil_a, c_a, tup_a, tup_k, lst_a, lst_k, bl_a, bl_k, eif_a, eif_t, eif_f, nt_a, nt_k, an_a, an_t, an_f, or_a, or_t, or_f, van_a, van_t, van_f, vor_a, vor_t, vor_f, vnt_a, vnt_k, ch_a, ch_ka, ch_kb, ch_t, ch_f, ch_k2, par_a, par_k, tg_a, tg_k, nx_k, b_nm, b_pr, b_tr, tr_k, e_nm, e_pr, for_a, for_k, call_a, any_a, items_l, items_t, idx_a, idx_k, idx_k2, no_a, some_a, some_k, sl_a, sl_k, sl_k1, sl_k2, get_a, get_k, get_k1, get_k2, run_a, run_rt, run_ro, run_nx, runo_a, runo_k, next_a, err_a, v0, v1, kD_ok, kD_err, vw_nil, th_nil, frz_nil, unS_fz, unS_no, unS_ow, List.map_cons, List.map_nil, List.set_cons_zero, List.set_cons_succ, startD, List.replicate, List.cons_append, List.nil_append, List.length_cons, List.length_nil, Nat.reduceAdd, Nat.reduceSub, dAdd_i, dSub_i, dOrd_i, bMin2_i, bMax2_i, tx0, tx1, tx2, tx3, lx0, lx1, comp_a, comp_k, comp_nil, comp_cons, comp_k1, comp_t, comp_f, comp_k3, comp_tt, pure_ok, wipe_nil, wipe_cons, en_a, en_k, enF_nil, enF_cons, zp_a, zp_l, zp_t, zpF_cons, zpF_nil, rg1_a, rg2_a, len_t, len_l, tuple_l, isi_ii, isi_bi, isi_tt, isi_ll, isi_ss, sl1, Bool.not_true, Bool.not_false, app_b, app_l, tix_a, tix_l, reto_a, reto_l, List.getElem?_cons_zero, List.getElem?_cons_succ, paro_a, paro_k, neg_i, rev_l, cut_l, told_a, told_ok, told_err, zp_m, compx_a, compx_k, tx_a, tx_k, h0, h1, h2, h3, h4]
theorem cell_nil (k : Int) (h : dMul (.int k) (.int 7919) = .ok (.int (k * 7919))) : F__law_cell [.list [], .int k] = .ok (.int (k * 7919)) := by
  simp only [F__law_cell, b__law_cell, seq_a, seq_nx, seq_rt, seq_ct, seq_bk, seq_err, if_a, if_t, if_f, asg_a, asg_k, own_a, own_k, lc_a, lc_k, ex_a, ex_k, rt_a, rt_k, op_a, op_k, op_k2, un_a, cons_a, cons_k, cons_k2, nil_a, c_a, tup_a, tup_k, lst_a, lst_k, bl_a, bl_k, eif_a, eif_t, eif_f, nt_a, nt_k, an_a, an_t, an_f, or_a, or_t, or_f, van_a, van_t, van_f, vor_a, vor_t, vor_f, vnt_a, vnt_k, ch_a, ch_ka, ch_kb, ch_t, ch_f, ch_k2, par_a, par_k, tg_a, tg_k, nx_k, b_nm, b_pr, b_tr, tr_k, e_nm, e_pr, for_a, for_k, call_a, any_a, items_l, items_t, idx_a, idx_k, idx_k2, no_a, some_a, some_k, sl_a, sl_k, sl_k1, sl_k2, get_a, get_k, get_k1, get_k2, run_a, run_rt, run_ro, run_nx, runo_a, runo_k, next_a, err_a, v0, v1, kD_ok, kD_err, vw_nil, th_nil, frz_nil, unS_fz, unS_no, unS_ow, List.map_cons, List.map_nil, List.set_cons_zero, List.set_cons_succ, startD, List.replicate, List.cons_append, List.nil_append, List.length_cons, List.length_nil, Nat.reduceAdd, Nat.reduceSub, dAdd_i, dSub_i, dOrd_i, bMin2_i, bMax2_i, tx0, tx1, tx2, tx3, lx0, lx1, comp_a, comp_k, comp_nil, comp_cons, comp_k1, comp_t, comp_f, comp_k3, comp_tt, pure_ok, wipe_nil, wipe_cons, en_a, en_k, enF_nil, enF_cons, zp_a, zp_l, zp_t, zpF_cons, zpF_nil, rg1_a, rg2_a, len_t, len_l, tuple_l, isi_ii, isi_bi, isi_tt, isi_ll, isi_ss, sl1, Bool.not_true, Bool.not_false, app_b, app_l, tix_a, tix_l, reto_a, reto_l, List.getElem?_cons_zero, List.getElem?_cons_succ, paro_a, paro_k, neg_i, rev_l, cut_l, told_a, told_ok, told_err, zp_m, compx_a, compx_k, tx_a, tx_k, eq_nils, h]
theorem cell_ok (ns : List Int) (hn : ns.length ≤ 63) (k : Nat) : ∃ v : Int, F__law_cell [.list (ns.map PyData.int), .int k] = .ok (.int v) := by
  cases ns with
  | nil => exact ⟨_, cell_nil k (lit64 ⟨by decide, by decide⟩)⟩
  | cons x r =>
    have hl : ((x :: r).map PyData.int).length = r.length + 1 := by simp
    have hr : r.length ≤ 62 := by simpa using hn
    have hp : k % (r.length + 1) < r.length + 1 := Nat.mod_lt _ (by omega)
    have ha : ((x :: r).map PyData.int)[k % (r.length + 1)]? = some (.int ((x :: r)[k % (r.length + 1)]'(by simpa using hp))) := by
      rw [List.getElem?_map, List.getElem?_eq_getElem (by simpa using hp)]
      rfl
    refine ⟨_, cell_ev _ k 0 ((k % (r.length + 1) : Nat) : Int) _ ((k : Int) / ((r.length + 1 : Nat) : Int)) (eq_nil _ _ (shp_ints (x :: r))) ?_ (dIx_l (atN ha)) ?_ (lit64 ⟨by decide, by decide⟩)⟩
    · rw [hl]
      have := dMod_i (i := (k : Int)) (j := ((r.length + 1 : Nat) : Int)) (by omega)
      rw [this]
      congr 2
    · rw [hl]
      exact dFdiv_i ⟨by omega, nat200 ⟨by omega, by omega⟩⟩
theorem bnd_flat : F__law_bounds [.str "flat"] = .ok (.list [.tuple [.int 0, .int 9]]) := by kernel_rfl
theorem bnd_each : F__law_bounds [.str "each"] = .ok (.list [.tuple [.int 0, .int 9]]) := by kernel_rfl
theorem bnd_base : F__law_bounds [.str "base"] = .ok (.list [.tuple [.int 0, .int 9], .tuple [.int 0, .int 9]]) := by kernel_rfl
theorem bnd_from : F__law_bounds [.str "from"] = .ok (.list [.tuple [.int 0, .int 9], .tuple [.int 1, .int 5], .tuple [.int 0, .int 9]]) := by kernel_rfl
theorem bnd_packs : F__law_bounds [.str "packs"] = .ok (.list [.tuple [.int 0, .int 9], .tuple [.int 1, .int 5]]) := by kernel_rfl
theorem bnd_gift : F__law_bounds [.str "gift"] = .ok (.list [.tuple [.int 0, .int 9], .tuple [.int 1, .int 5]]) := by kernel_rfl
theorem bnd_least : F__law_bounds [.str "least"] = .ok (.list [.tuple [.int 0, .int 9], .tuple [.int 0, .int 9]]) := by kernel_rfl
theorem bnd_most : F__law_bounds [.str "most"] = .ok (.list [.tuple [.int 0, .int 9], .tuple [.int 0, .int 9]]) := by kernel_rfl
theorem bnd_off : F__law_bounds [.str "off"] = .ok (.list [.tuple [.int 0, .int 9], .tuple [.int 1, .int 5], .tuple [.int 0, .int 9]]) := by kernel_rfl
abbrev kindsD : List D := [.str "flat", .str "each", .str "base", .str "from", .str "packs", .str "gift", .str "least", .str "most", .str "off"]
theorem kinds_ok : F__law_kinds [] = .ok (.list kindsD) := by kernel_rfl
end DL.K30
set_option Elab.async false
set_option linter.all false
set_option maxRecDepth 100000
set_option maxHeartbeats 4000000
/-! P10b: all rules of kinds. -/
namespace DL.K30
open PySem PySem.Spec PyProof.Rows L2 RZ DL
def r10 : List Nat := List.range 10
def r15 : List Nat := [1, 2, 3, 4, 5]
def KR : List (Str × List Rl) := [("flat", r10.map .flat), ("each", r10.map .each), ("base", r10.flatMap fun a => r10.map (.base a)), ("from", r10.flatMap fun a => r15.flatMap fun n => r10.map (.frm a n)), ("packs", r10.flatMap fun a => r15.map (.packs a)), ("gift", r10.flatMap fun a => r15.map (.gift a)), ("least", r10.flatMap fun a => r10.map (.least a)), ("most", r10.flatMap fun a => r10.map (.most a)), ("off", r10.flatMap fun a => r15.flatMap fun n => r10.map (.off a n))]
def rlsK (k : Str) : List Rl := (KR.lookup k).getD []
def rlsD (k : Str) : List D := (rlsK k).map Rl.D
def outS (r : R Fl) (i : Nat) : Sl := match r with
  | .ok (.nx ρ) => ρ.getD i .no
  | _ => .no
def LR (k : Str) (bl : List D) (kd md : D) (x4 x5 x6 x7 x8 : Sl) : R Fl := forL (.pr (.nm 4) (.nm 5)) L__law_rules_3 bl [.fz kd, .fz md, .fz (.str k), .fz (.list [.tuple [.str k]]), x4, x5, x6, x7, x8]
structure KR1 (k : Str) : Prop where
  ro : F_rules_of [.str k] = .ok (.list (rlsD k))
  lr : ∃ bl, F__law_bounds [.str k] = .ok (.list bl) ∧ ∀ (kd md : D) (x4 x5 x6 x7 x8 : Sl), ∃ y4 y5 y6 y7 y8, LR k bl kd md x4 x5 x6 x7 x8 = .ok (.nx [.fz kd, .fz md, .fz (.str k), .fz (.list (rlsD k)), y4, y5, y6, y7, y8])
  sm : (rlsD k).length ≤ 500
theorem kr_flat : KR1 "flat" := ⟨by kernel_rfl, ⟨[.tuple [.int 0, .int 9]], bnd_flat, fun kd md x4 x5 x6 x7 x8 => ⟨outS (LR "flat" [.tuple [.int 0, .int 9]] kd md x4 x5 x6 x7 x8) 4, outS (LR "flat" [.tuple [.int 0, .int 9]] kd md x4 x5 x6 x7 x8) 5, outS (LR "flat" [.tuple [.int 0, .int 9]] kd md x4 x5 x6 x7 x8) 6, outS (LR "flat" [.tuple [.int 0, .int 9]] kd md x4 x5 x6 x7 x8) 7, outS (LR "flat" [.tuple [.int 0, .int 9]] kd md x4 x5 x6 x7 x8) 8, by kernel_rfl⟩⟩, by decide +kernel⟩
theorem kr_each : KR1 "each" := ⟨by kernel_rfl, ⟨[.tuple [.int 0, .int 9]], bnd_each, fun kd md x4 x5 x6 x7 x8 => ⟨outS (LR "each" [.tuple [.int 0, .int 9]] kd md x4 x5 x6 x7 x8) 4, outS (LR "each" [.tuple [.int 0, .int 9]] kd md x4 x5 x6 x7 x8) 5, outS (LR "each" [.tuple [.int 0, .int 9]] kd md x4 x5 x6 x7 x8) 6, outS (LR "each" [.tuple [.int 0, .int 9]] kd md x4 x5 x6 x7 x8) 7, outS (LR "each" [.tuple [.int 0, .int 9]] kd md x4 x5 x6 x7 x8) 8, by kernel_rfl⟩⟩, by decide +kernel⟩
theorem kr_base : KR1 "base" := ⟨by kernel_rfl, ⟨[.tuple [.int 0, .int 9], .tuple [.int 0, .int 9]], bnd_base, fun kd md x4 x5 x6 x7 x8 => ⟨outS (LR "base" [.tuple [.int 0, .int 9], .tuple [.int 0, .int 9]] kd md x4 x5 x6 x7 x8) 4, outS (LR "base" [.tuple [.int 0, .int 9], .tuple [.int 0, .int 9]] kd md x4 x5 x6 x7 x8) 5, outS (LR "base" [.tuple [.int 0, .int 9], .tuple [.int 0, .int 9]] kd md x4 x5 x6 x7 x8) 6, outS (LR "base" [.tuple [.int 0, .int 9], .tuple [.int 0, .int 9]] kd md x4 x5 x6 x7 x8) 7, outS (LR "base" [.tuple [.int 0, .int 9], .tuple [.int 0, .int 9]] kd md x4 x5 x6 x7 x8) 8, by kernel_rfl⟩⟩, by decide +kernel⟩
theorem kr_from : KR1 "from" := ⟨by kernel_rfl, ⟨[.tuple [.int 0, .int 9], .tuple [.int 1, .int 5], .tuple [.int 0, .int 9]], bnd_from, fun kd md x4 x5 x6 x7 x8 => ⟨outS (LR "from" [.tuple [.int 0, .int 9], .tuple [.int 1, .int 5], .tuple [.int 0, .int 9]] kd md x4 x5 x6 x7 x8) 4, outS (LR "from" [.tuple [.int 0, .int 9], .tuple [.int 1, .int 5], .tuple [.int 0, .int 9]] kd md x4 x5 x6 x7 x8) 5, outS (LR "from" [.tuple [.int 0, .int 9], .tuple [.int 1, .int 5], .tuple [.int 0, .int 9]] kd md x4 x5 x6 x7 x8) 6, outS (LR "from" [.tuple [.int 0, .int 9], .tuple [.int 1, .int 5], .tuple [.int 0, .int 9]] kd md x4 x5 x6 x7 x8) 7, outS (LR "from" [.tuple [.int 0, .int 9], .tuple [.int 1, .int 5], .tuple [.int 0, .int 9]] kd md x4 x5 x6 x7 x8) 8, by kernel_rfl⟩⟩, by decide +kernel⟩
theorem kr_packs : KR1 "packs" := ⟨by kernel_rfl, ⟨[.tuple [.int 0, .int 9], .tuple [.int 1, .int 5]], bnd_packs, fun kd md x4 x5 x6 x7 x8 => ⟨outS (LR "packs" [.tuple [.int 0, .int 9], .tuple [.int 1, .int 5]] kd md x4 x5 x6 x7 x8) 4, outS (LR "packs" [.tuple [.int 0, .int 9], .tuple [.int 1, .int 5]] kd md x4 x5 x6 x7 x8) 5, outS (LR "packs" [.tuple [.int 0, .int 9], .tuple [.int 1, .int 5]] kd md x4 x5 x6 x7 x8) 6, outS (LR "packs" [.tuple [.int 0, .int 9], .tuple [.int 1, .int 5]] kd md x4 x5 x6 x7 x8) 7, outS (LR "packs" [.tuple [.int 0, .int 9], .tuple [.int 1, .int 5]] kd md x4 x5 x6 x7 x8) 8, by kernel_rfl⟩⟩, by decide +kernel⟩
theorem kr_gift : KR1 "gift" := ⟨by kernel_rfl, ⟨[.tuple [.int 0, .int 9], .tuple [.int 1, .int 5]], bnd_gift, fun kd md x4 x5 x6 x7 x8 => ⟨outS (LR "gift" [.tuple [.int 0, .int 9], .tuple [.int 1, .int 5]] kd md x4 x5 x6 x7 x8) 4, outS (LR "gift" [.tuple [.int 0, .int 9], .tuple [.int 1, .int 5]] kd md x4 x5 x6 x7 x8) 5, outS (LR "gift" [.tuple [.int 0, .int 9], .tuple [.int 1, .int 5]] kd md x4 x5 x6 x7 x8) 6, outS (LR "gift" [.tuple [.int 0, .int 9], .tuple [.int 1, .int 5]] kd md x4 x5 x6 x7 x8) 7, outS (LR "gift" [.tuple [.int 0, .int 9], .tuple [.int 1, .int 5]] kd md x4 x5 x6 x7 x8) 8, by kernel_rfl⟩⟩, by decide +kernel⟩
theorem kr_least : KR1 "least" := ⟨by kernel_rfl, ⟨[.tuple [.int 0, .int 9], .tuple [.int 0, .int 9]], bnd_least, fun kd md x4 x5 x6 x7 x8 => ⟨outS (LR "least" [.tuple [.int 0, .int 9], .tuple [.int 0, .int 9]] kd md x4 x5 x6 x7 x8) 4, outS (LR "least" [.tuple [.int 0, .int 9], .tuple [.int 0, .int 9]] kd md x4 x5 x6 x7 x8) 5, outS (LR "least" [.tuple [.int 0, .int 9], .tuple [.int 0, .int 9]] kd md x4 x5 x6 x7 x8) 6, outS (LR "least" [.tuple [.int 0, .int 9], .tuple [.int 0, .int 9]] kd md x4 x5 x6 x7 x8) 7, outS (LR "least" [.tuple [.int 0, .int 9], .tuple [.int 0, .int 9]] kd md x4 x5 x6 x7 x8) 8, by kernel_rfl⟩⟩, by decide +kernel⟩
theorem kr_most : KR1 "most" := ⟨by kernel_rfl, ⟨[.tuple [.int 0, .int 9], .tuple [.int 0, .int 9]], bnd_most, fun kd md x4 x5 x6 x7 x8 => ⟨outS (LR "most" [.tuple [.int 0, .int 9], .tuple [.int 0, .int 9]] kd md x4 x5 x6 x7 x8) 4, outS (LR "most" [.tuple [.int 0, .int 9], .tuple [.int 0, .int 9]] kd md x4 x5 x6 x7 x8) 5, outS (LR "most" [.tuple [.int 0, .int 9], .tuple [.int 0, .int 9]] kd md x4 x5 x6 x7 x8) 6, outS (LR "most" [.tuple [.int 0, .int 9], .tuple [.int 0, .int 9]] kd md x4 x5 x6 x7 x8) 7, outS (LR "most" [.tuple [.int 0, .int 9], .tuple [.int 0, .int 9]] kd md x4 x5 x6 x7 x8) 8, by kernel_rfl⟩⟩, by decide +kernel⟩
theorem kr_off : KR1 "off" := ⟨by kernel_rfl, ⟨[.tuple [.int 0, .int 9], .tuple [.int 1, .int 5], .tuple [.int 0, .int 9]], bnd_off, fun kd md x4 x5 x6 x7 x8 => ⟨outS (LR "off" [.tuple [.int 0, .int 9], .tuple [.int 1, .int 5], .tuple [.int 0, .int 9]] kd md x4 x5 x6 x7 x8) 4, outS (LR "off" [.tuple [.int 0, .int 9], .tuple [.int 1, .int 5], .tuple [.int 0, .int 9]] kd md x4 x5 x6 x7 x8) 5, outS (LR "off" [.tuple [.int 0, .int 9], .tuple [.int 1, .int 5], .tuple [.int 0, .int 9]] kd md x4 x5 x6 x7 x8) 6, outS (LR "off" [.tuple [.int 0, .int 9], .tuple [.int 1, .int 5], .tuple [.int 0, .int 9]] kd md x4 x5 x6 x7 x8) 7, outS (LR "off" [.tuple [.int 0, .int 9], .tuple [.int 1, .int 5], .tuple [.int 0, .int 9]] kd md x4 x5 x6 x7 x8) 8, by kernel_rfl⟩⟩, by decide +kernel⟩
theorem kr (k : Str) (h : k ∈ kindsL) : KR1 k := by
  simp only [kindsL, List.mem_cons, List.not_mem_nil, or_false] at h
  rcases h with rfl | rfl | rfl | rfl | rfl | rfl | rfl | rfl | rfl
  · exact kr_flat
  · exact kr_each
  · exact kr_base
  · exact kr_from
  · exact kr_packs
  · exact kr_gift
  · exact kr_least
  · exact kr_most
  · exact kr_off
/-! lists of rules may be compared -/
theorem lay_rl (r : Rl) : r.D.canLay0 = true := by cases r <;> kernel_rfl
theorem dep_rl (r : Rl) : r.D.depth ≤ 1 := by cases r <;> exact Nat.le_of_eq (by kernel_rfl)
theorem lay_rls : ∀ l : List Rl, PyData.canLayAll0 (l.map Rl.D) = true
  | [] => by simp [PyData.canLayAll0]
  | a :: l => by simp [PyData.canLayAll0, lay_rl a, lay_rls l]
theorem dep_rls : ∀ l : List Rl, PyData.depthAll (l.map Rl.D) ≤ 1
  | [] => by simp [PyData.depthAll]
  | a :: l => by
    have h := dep_rls l
    have h2 := dep_rl a
    simp only [List.map_cons, PyData.depthAll]
    omega
theorem shp_rls (l : List Rl) : SeqAt.shaped (.list (l.map Rl.D)) = true := by
  have h := dep_rls l
  have h2 : PyData.depth (.list (l.map Rl.D)) ≤ 64 := by
    simp only [PyData.depth]
    omega
  show (PyData.canLay0 (.list (l.map Rl.D)) && decide (PyData.depth (.list (l.map Rl.D)) ≤ 64)) = true
  rw [Bool.and_eq_true]
  exact ⟨by simp only [PyData.canLay0]; exact lay_rls l, decide_eq_true h2⟩
def allD (ks : List Str) : List D := ks.flatMap rlsD
theorem allD_map (ks : List Str) : allD ks = (ks.flatMap rlsK).map Rl.D := by
  unfold allD
  rw [List.map_flatMap]
  rfl
theorem allD_len : ∀ (ks : List Str), (∀ k ∈ ks, k ∈ kindsL) → (allD ks).length ≤ 500 * ks.length
  | [], _ => Nat.le_refl _
  | k :: ks, h => by
    have h1 := (kr k (h k (by simp))).sm
    have h2 := allD_len ks fun x hx => h x (by simp [hx])
    show (rlsD k ++ allD ks).length ≤ _
    rw [List.length_append, List.length_cons]
    omega
/-! the program's -/
theorem ext_l {i : Nat} {S : List Nat} {f : DE → R D} {ρ : SE} {ds es : List D} (hi : (ρ[i]? : Option Sl) = some (.ow ds)) (hf : f (vw S ρ) = .ok (.list es)) (hl : ds.length + es.length ≤ 100000) : sExt i S f ρ = .ok (.nx ((th S false ρ).set i (.ow (ds ++ es)))) := by
  unfold sExt
  rw [hi]
  show (f (vw S ρ)).bind _ = _
  rw [hf]
  exact if_pos hl
theorem allr1 (kd : D) (acc X : List D) (k : Str) (h : F_rules_of [.str k] = .ok (.list X)) (hl : acc.length + X.length ≤ 100000) : L_all_rules_1 [.fz kd, .ow acc, .fz (.str k)] = .ok (.nx [.fz kd, .ow (acc ++ X), .fz (.str k)]) := by
  have e : eCall F_rules_of (aCons (eVar 2) aNil) (vw [] [.fz kd, .ow acc, .fz (.str k)]) = .ok (.list X) := by simp only [seq_a, seq_nx, seq_rt, seq_ct, seq_bk, seq_err, if_a, if_t, if_f, asg_a, asg_k, own_a, own_k, lc_a, lc_k, ex_a, ex_k, rt_a, rt_k, op_a, op_k, op_k2, un_a, cons_a, cons_k, cons_k2, nil_a, c_a, tup_a, tup_k, lst_a, lst_k, bl_a, bl_k, eif_a, eif_t, eif_f, nt_a, nt_k, an_a, an_t, an_f, or_a, or_t, or_f, van_a, van_t, van_f, vor_a, vor_t, vor_f, vnt_a, vnt_k, ch_a, ch_ka, ch_kb, ch_t, ch_f, ch_k2, par_a, par_k, tg_a, tg_k, nx_k, b_nm, b_pr, b_tr, tr_k, e_nm, e_pr, for_a, for_k, call_a, any_a, items_l, items_t, idx_a, idx_k, idx_k2, no_a, some_a, some_k, sl_a, sl_k, sl_k1, sl_k2, get_a, get_k, get_k1, get_k2, run_a, run_rt, run_ro, run_nx, runo_a, runo_k, next_a, err_a, v0, v1, kD_ok, kD_err, vw_nil, th_nil, frz_nil, unS_fz, unS_no, unS_ow, List.map_cons, List.map_nil, List.set_cons_zero, List.set_cons_succ, startD, List.replicate, List.cons_append, List.nil_append, List.length_cons, List.length_nil, Nat.reduceAdd, Nat.reduceSub, dAdd_i, dSub_i, dOrd_i, bMin2_i, bMax2_i, tx0, tx1, tx2, tx3, lx0, lx1, comp_a, comp_k, comp_nil, comp_cons, comp_k1, comp_t, comp_f, comp_k3, comp_tt, pure_ok, wipe_nil, wipe_cons, en_a, en_k, enF_nil, enF_cons, zp_a, zp_l, zp_t, zpF_cons, zpF_nil, rg1_a, rg2_a, len_t, len_l, tuple_l, isi_ii, isi_bi, isi_tt, isi_ll, isi_ss, sl1, Bool.not_true, Bool.not_false, app_b, app_l, tix_a, tix_l, reto_a, reto_l, List.getElem?_cons_zero, List.getElem?_cons_succ, paro_a, paro_k, neg_i, rev_l, cut_l, told_a, told_ok, told_err, zp_m, compx_a, compx_k, tx_a, tx_k, h]
  have q : L_all_rules_1 [.fz kd, .ow acc, .fz (.str k)] = _ := ext_l rfl e hl
  rw [q, th_nil]
  rfl
theorem all_loop (kd : D) : ∀ (ks : List Str) (acc : List D) (x2 : Sl), (∀ k ∈ ks, k ∈ kindsL) → acc.length + 500 * ks.length ≤ 100000 → ∃ y2, forL (.nm 2) L_all_rules_1 (ks.map PyData.str) [.fz kd, .ow acc, x2] = .ok (.nx [.fz kd, .ow (acc ++ allD ks), y2])
  | [], acc, x2, _, _ => ⟨x2, by rw [allD, List.flatMap_nil, List.append_nil]; rfl⟩
  | k :: ks, acc, x2, h, hl => by
    have K := kr k (h k (by simp))
    have sm := K.sm
    rw [List.length_cons] at hl
    obtain ⟨y2, ih⟩ := all_loop kd ks (acc ++ rlsD k) (.fz (.str k)) (fun x hx => h x (by simp [hx])) (by rw [List.length_append]; omega)
    refine ⟨y2, ?_⟩
    have e := allr1 kd acc (rlsD k) k K.ro (by omega)
    rw [List.map_cons]
    show (L_all_rules_1 [.fz kd, .ow acc, .fz (.str k)]).bind _ = _
    rw [e]
    show forL (.nm 2) L_all_rules_1 (ks.map PyData.str) [.fz kd, .ow (acc ++ rlsD k), .fz (.str k)] = _
    rw [ih, List.append_assoc]
    rfl
theorem all_ev (l out : List D) (y2 : Sl) (e : forL (.nm 2) L_all_rules_1 l [.fz (.list l), .ow [], .no] = .ok (.nx [.fz (.list l), .ow out, y2])) : F_all_rules [.list l] = .ok (.list out) := by
  have v1 : eVar 1 (vw [1] [.fz (.list l), .ow out, y2]) = .ok (.list out) := eVar_ow rfl (by decide)
  simp only [F_all_rules, b_all_rules, seq_a, seq_nx, seq_rt, seq_ct, seq_bk, seq_err, if_a, if_t, if_f, asg_a, asg_k, own_a, own_k, lc_a, lc_k, ex_a, ex_k, rt_a, rt_k, op_a, op_k, op_k2, un_a, cons_a, cons_k, cons_k2, nil_a, c_a, tup_a, tup_k, lst_a, lst_k, bl_a, bl_k, eif_a, eif_t, eif_f, nt_a, nt_k, an_a, an_t, an_f, or_a, or_t, or_f, van_a, van_t, van_f, vor_a, vor_t, vor_f, vnt_a, vnt_k, ch_a, ch_ka, ch_kb, ch_t, ch_f, ch_k2, par_a, par_k, tg_a, tg_k, nx_k, b_nm, b_pr, b_tr, tr_k, e_nm, e_pr, for_a, for_k, call_a, any_a, items_l, items_t, idx_a, idx_k, idx_k2, no_a, some_a, some_k, sl_a, sl_k, sl_k1, sl_k2, get_a, get_k, get_k1, get_k2, run_a, run_rt, run_ro, run_nx, runo_a, runo_k, next_a, err_a, v0, v1, kD_ok, kD_err, vw_nil, th_nil, frz_nil, unS_fz, unS_no, unS_ow, List.map_cons, List.map_nil, List.set_cons_zero, List.set_cons_succ, startD, List.replicate, List.cons_append, List.nil_append, List.length_cons, List.length_nil, Nat.reduceAdd, Nat.reduceSub, dAdd_i, dSub_i, dOrd_i, bMin2_i, bMax2_i, tx0, tx1, tx2, tx3, lx0, lx1, comp_a, comp_k, comp_nil, comp_cons, comp_k1, comp_t, comp_f, comp_k3, comp_tt, pure_ok, wipe_nil, wipe_cons, en_a, en_k, enF_nil, enF_cons, zp_a, zp_l, zp_t, zpF_cons, zpF_nil, rg1_a, rg2_a, len_t, len_l, tuple_l, isi_ii, isi_bi, isi_tt, isi_ll, isi_ss, sl1, Bool.not_true, Bool.not_false, app_b, app_l, tix_a, tix_l, reto_a, reto_l, List.getElem?_cons_zero, List.getElem?_cons_succ, paro_a, paro_k, neg_i, rev_l, cut_l, told_a, told_ok, told_err, zp_m, compx_a, compx_k, tx_a, tx_k, e, v1]
theorem all_ok (ks : List Str) (h : ∀ k ∈ ks, k ∈ kindsL) (hl : ks.length ≤ 100) : F_all_rules [.list (ks.map PyData.str)] = .ok (.list (allD ks)) := by
  obtain ⟨y2, e⟩ := all_loop (.list (ks.map PyData.str)) ks [] .no h (by simp; omega)
  exact all_ev _ _ y2 e
/-! the law's -/
theorem lr4 (kd : D) (made X bl : List D) (k : Str) (x3 x4 x5 x6 x7 x8 y4 y5 y6 y7 y8 : Sl) (hb : F__law_bounds [.str k] = .ok (.list bl)) (hf : LR k bl kd (.list made) x4 x5 x6 x7 x8 = .ok (.nx [.fz kd, .fz (.list made), .fz (.str k), .fz (.list X), y4, y5, y6, y7, y8])) (hl : made.length + X.length ≤ 100000) :
    L__law_rules_4 [.fz kd, .fz (.list made), .fz (.str k), x3, x4, x5, x6, x7, x8] = .ok (.nx [.fz kd, .fz (.list (made ++ X)), .fz (.str k), .fz (.list X), y4, y5, y6, y7, y8]) := by
  have hf' : forL (.pr (.nm 4) (.nm 5)) L__law_rules_3 bl [.fz kd, .fz (.list made), .fz (.str k), .fz (.list [.tuple [.str k]]), x4, x5, x6, x7, x8] = .ok (.nx [.fz kd, .fz (.list made), .fz (.str k), .fz (.list X), y4, y5, y6, y7, y8]) := hf
  have ha := cat_l hl
  simp only [L__law_rules_4, seq_a, seq_nx, seq_rt, seq_ct, seq_bk, seq_err, if_a, if_t, if_f, asg_a, asg_k, own_a, own_k, lc_a, lc_k, ex_a, ex_k, rt_a, rt_k, op_a, op_k, op_k2, un_a, cons_a, cons_k, cons_k2, nil_a, c_a, tup_a, tup_k, lst_a, lst_k, bl_a, bl_k, eif_a, eif_t, eif_f, nt_a, nt_k, an_a, an_t, an_f, or_a, or_t, or_f, van_a, van_t, van_f, vor_a, vor_t, vor_f, vnt_a, vnt_k, ch_a, ch_ka, ch_kb, ch_t, ch_f, ch_k2, par_a, par_k, tg_a, tg_k, nx_k, b_nm, b_pr, b_tr, tr_k, e_nm, e_pr, for_a, for_k, call_a, any_a, items_l, items_t, idx_a, idx_k, idx_k2, no_a, some_a, some_k, sl_a, sl_k, sl_k1, sl_k2, get_a, get_k, get_k1, get_k2, run_a, run_rt, run_ro, run_nx, runo_a, runo_k, next_a, err_a, v0, v1, kD_ok, kD_err, vw_nil, th_nil, frz_nil, unS_fz, unS_no, unS_ow, List.map_cons, List.map_nil, List.set_cons_zero, List.set_cons_succ, startD, List.replicate, List.cons_append, List.nil_append, List.length_cons, List.length_nil, Nat.reduceAdd, Nat.reduceSub, dAdd_i, dSub_i, dOrd_i, bMin2_i, bMax2_i, tx0, tx1, tx2, tx3, lx0, lx1, comp_a, comp_k, comp_nil, comp_cons, comp_k1, comp_t, comp_f, comp_k3, comp_tt, pure_ok, wipe_nil, wipe_cons, en_a, en_k, enF_nil, enF_cons, zp_a, zp_l, zp_t, zpF_cons, zpF_nil, rg1_a, rg2_a, len_t, len_l, tuple_l, isi_ii, isi_bi, isi_tt, isi_ll, isi_ss, sl1, Bool.not_true, Bool.not_false, app_b, app_l, tix_a, tix_l, reto_a, reto_l, List.getElem?_cons_zero, List.getElem?_cons_succ, paro_a, paro_k, neg_i, rev_l, cut_l, told_a, told_ok, told_err, zp_m, compx_a, compx_k, tx_a, tx_k, hb, hf', ha]
theorem law_loop (kd : D) : ∀ (ks : List Str) (made : List D) (x2 x3 x4 x5 x6 x7 x8 : Sl), (∀ k ∈ ks, k ∈ kindsL) → made.length + 500 * ks.length ≤ 100000 → ∃ y2 y3 y4 y5 y6 y7 y8, forL (.nm 2) L__law_rules_4 (ks.map PyData.str) [.fz kd, .fz (.list made), x2, x3, x4, x5, x6, x7, x8] = .ok (.nx [.fz kd, .fz (.list (made ++ allD ks)), y2, y3, y4, y5, y6, y7, y8])
  | [], made, x2, x3, x4, x5, x6, x7, x8, _, _ => ⟨x2, x3, x4, x5, x6, x7, x8, by rw [allD, List.flatMap_nil, List.append_nil]; rfl⟩
  | k :: ks, made, x2, x3, x4, x5, x6, x7, x8, h, hl => by
    have K := kr k (h k (by simp))
    have sm := K.sm
    obtain ⟨bl, hb, hf⟩ := K.lr
    rw [List.length_cons] at hl
    obtain ⟨z4, z5, z6, z7, z8, e0⟩ := hf kd (.list made) x4 x5 x6 x7 x8
    have e := lr4 kd made (rlsD k) bl k x3 x4 x5 x6 x7 x8 z4 z5 z6 z7 z8 hb e0 (by omega)
    obtain ⟨y2, y3, y4, y5, y6, y7, y8, ih⟩ := law_loop kd ks (made ++ rlsD k) (.fz (.str k)) (.fz (.list (rlsD k))) z4 z5 z6 z7 z8 (fun x hx => h x (by simp [hx])) (by rw [List.length_append]; omega)
    refine ⟨y2, y3, y4, y5, y6, y7, y8, ?_⟩
    rw [List.map_cons]
    show (L__law_rules_4 [.fz kd, .fz (.list made), .fz (.str k), x3, x4, x5, x6, x7, x8]).bind _ = _
    rw [e]
    show forL (.nm 2) L__law_rules_4 (ks.map PyData.str) [.fz kd, .fz (.list (made ++ rlsD k)), .fz (.str k), .fz (.list (rlsD k)), z4, z5, z6, z7, z8] = _
    rw [ih, List.append_assoc]
    rfl
theorem lrules_ev (l out : List D) (y2 y3 y4 y5 y6 y7 y8 : Sl) (e : forL (.nm 2) L__law_rules_4 l [.fz (.list l), .fz (.list []), .no, .no, .no, .no, .no, .no, .no] = .ok (.nx [.fz (.list l), .fz (.list out), y2, y3, y4, y5, y6, y7, y8])) : F__law_rules [.list l] = .ok (.list out) := by
  simp only [F__law_rules, b__law_rules, seq_a, seq_nx, seq_rt, seq_ct, seq_bk, seq_err, if_a, if_t, if_f, asg_a, asg_k, own_a, own_k, lc_a, lc_k, ex_a, ex_k, rt_a, rt_k, op_a, op_k, op_k2, un_a, cons_a, cons_k, cons_k2, nil_a, c_a, tup_a, tup_k, lst_a, lst_k, bl_a, bl_k, eif_a, eif_t, eif_f, nt_a, nt_k, an_a, an_t, an_f, or_a, or_t, or_f, van_a, van_t, van_f, vor_a, vor_t, vor_f, vnt_a, vnt_k, ch_a, ch_ka, ch_kb, ch_t, ch_f, ch_k2, par_a, par_k, tg_a, tg_k, nx_k, b_nm, b_pr, b_tr, tr_k, e_nm, e_pr, for_a, for_k, call_a, any_a, items_l, items_t, idx_a, idx_k, idx_k2, no_a, some_a, some_k, sl_a, sl_k, sl_k1, sl_k2, get_a, get_k, get_k1, get_k2, run_a, run_rt, run_ro, run_nx, runo_a, runo_k, next_a, err_a, v0, v1, kD_ok, kD_err, vw_nil, th_nil, frz_nil, unS_fz, unS_no, unS_ow, List.map_cons, List.map_nil, List.set_cons_zero, List.set_cons_succ, startD, List.replicate, List.cons_append, List.nil_append, List.length_cons, List.length_nil, Nat.reduceAdd, Nat.reduceSub, dAdd_i, dSub_i, dOrd_i, bMin2_i, bMax2_i, tx0, tx1, tx2, tx3, lx0, lx1, comp_a, comp_k, comp_nil, comp_cons, comp_k1, comp_t, comp_f, comp_k3, comp_tt, pure_ok, wipe_nil, wipe_cons, en_a, en_k, enF_nil, enF_cons, zp_a, zp_l, zp_t, zpF_cons, zpF_nil, rg1_a, rg2_a, len_t, len_l, tuple_l, isi_ii, isi_bi, isi_tt, isi_ll, isi_ss, sl1, Bool.not_true, Bool.not_false, app_b, app_l, tix_a, tix_l, reto_a, reto_l, List.getElem?_cons_zero, List.getElem?_cons_succ, paro_a, paro_k, neg_i, rev_l, cut_l, told_a, told_ok, told_err, zp_m, compx_a, compx_k, tx_a, tx_k, e]
theorem law_rules_ok (ks : List Str) (h : ∀ k ∈ ks, k ∈ kindsL) (hl : ks.length ≤ 100) : F__law_rules [.list (ks.map PyData.str)] = .ok (.list (allD ks)) := by
  obtain ⟨y2, y3, y4, y5, y6, y7, y8, e⟩ := law_loop (.list (ks.map PyData.str)) ks [] .no .no .no .no .no .no .no h (by simp; omega)
  exact lrules_ev _ _ y2 y3 y4 y5 y6 y7 y8 e
end DL.K30
set_option Elab.async false
set_option linter.all false
set_option maxRecDepth 100000
set_option maxHeartbeats 4000000
/-! P41f: bounds of prices. -/
namespace DL.K30
open PySem PySem.Spec PyProof.Rows L2 RZ DL
def Rl.inB (m : Nat) (r : Rl) : Bool := decide (0 ≤ r.pr m ∧ r.pr m ≤ 699)
theorem g_flat : ∀ c : Nat, c < 10 → ∀ m : Nat, m < 21 → (Rl.flat c).inB m = true := by decide +kernel
theorem g_each : ∀ c : Nat, c < 10 → ∀ m : Nat, m < 21 → (Rl.each c).inB m = true := by decide +kernel
theorem g_base : ∀ a : Nat, a < 10 → ∀ b : Nat, b < 10 → ∀ m : Nat, m < 21 → (Rl.base a b).inB m = true := by decide +kernel
theorem g_frm : ∀ c : Nat, c < 10 → ∀ n : Nat, n < 6 → ∀ d : Nat, d < 10 → ∀ m : Nat, m < 21 → (Rl.frm c n d).inB m = true := by decide +kernel
theorem g_packs : ∀ c : Nat, c < 10 → ∀ n : Nat, n < 6 → ∀ m : Nat, m < 21 → 0 < n → (Rl.packs c n).inB m = true := by decide +kernel
theorem g_gift : ∀ c : Nat, c < 10 → ∀ n : Nat, n < 6 → ∀ m : Nat, m < 21 → 0 < n → (Rl.gift c n).inB m = true := by decide +kernel
theorem g_least : ∀ a : Nat, a < 10 → ∀ b : Nat, b < 10 → ∀ m : Nat, m < 21 → (Rl.least a b).inB m = true := by decide +kernel
theorem g_most : ∀ a : Nat, a < 10 → ∀ b : Nat, b < 10 → ∀ m : Nat, m < 21 → (Rl.most a b).inB m = true := by decide +kernel
theorem g_off : ∀ c : Nat, c < 10 → ∀ n : Nat, n < 6 → ∀ d : Nat, d < 10 → ∀ m : Nat, m < 21 → (Rl.off c n d).inB m = true := by decide +kernel
theorem pr_bd (r : Rl) (h : r.ok) (m : Nat) (hm : m ≤ 20) : 0 ≤ r.pr m ∧ r.pr m ≤ 699 := by
  refine of_decide_eq_true (?_ : r.inB m = true)
  cases r with
  | flat c => exact g_flat c h m (by omega)
  | each c => exact g_each c h m (by omega)
  | base a b => exact g_base a h.1 b h.2 m (by omega)
  | frm c n d => exact g_frm c h.1 n h.2.1.2 d h.2.2 m (by omega)
  | packs c n => exact g_packs c h.1 n h.2.2 m (by omega) h.2.1
  | gift c n => exact g_gift c h.1 n h.2.2 m (by omega) h.2.1
  | least a b => exact g_least a h.1 b h.2 m (by omega)
  | most a b => exact g_most a h.1 b h.2 m (by omega)
  | off c n d => exact g_off c h.1 n h.2.1.2 d h.2.2 m (by omega)
end DL.K30
set_option Elab.async false
set_option linter.all false
set_option maxRecDepth 100000
set_option maxHeartbeats 4000000
/-! P30c: kinds that are drawn, kinds that are refused. -/
namespace DL.K30
open PySem PySem.Spec PyProof.Rows L2 RZ DL
theorem nk_ev (x : D) (h : dIsi "str" x = .ok (.bool true)) (h2 : dIn true x c_KINDS = .ok (.bool false)) : F_need_kind [x] = .ok .none := by
  simp only [F_need_kind, b_need_kind, seq_a, seq_nx, seq_rt, seq_ct, seq_bk, seq_err, if_a, if_t, if_f, asg_a, asg_k, own_a, own_k, lc_a, lc_k, ex_a, ex_k, rt_a, rt_k, op_a, op_k, op_k2, un_a, cons_a, cons_k, cons_k2, nil_a, c_a, tup_a, tup_k, lst_a, lst_k, bl_a, bl_k, eif_a, eif_t, eif_f, nt_a, nt_k, an_a, an_t, an_f, or_a, or_t, or_f, van_a, van_t, van_f, vor_a, vor_t, vor_f, vnt_a, vnt_k, ch_a, ch_ka, ch_kb, ch_t, ch_f, ch_k2, par_a, par_k, tg_a, tg_k, nx_k, b_nm, b_pr, b_tr, tr_k, e_nm, e_pr, for_a, for_k, call_a, any_a, items_l, items_t, idx_a, idx_k, idx_k2, no_a, some_a, some_k, sl_a, sl_k, sl_k1, sl_k2, get_a, get_k, get_k1, get_k2, run_a, run_rt, run_ro, run_nx, runo_a, runo_k, next_a, err_a, v0, v1, kD_ok, kD_err, vw_nil, th_nil, frz_nil, unS_fz, unS_no, unS_ow, List.map_cons, List.map_nil, List.set_cons_zero, List.set_cons_succ, startD, List.replicate, List.cons_append, List.nil_append, List.length_cons, List.length_nil, Nat.reduceAdd, Nat.reduceSub, dAdd_i, dSub_i, dOrd_i, bMin2_i, bMax2_i, tx0, tx1, tx2, tx3, lx0, lx1, comp_a, comp_k, comp_nil, comp_cons, comp_k1, comp_t, comp_f, comp_k3, comp_tt, pure_ok, wipe_nil, wipe_cons, en_a, en_k, enF_nil, enF_cons, zp_a, zp_l, zp_t, zpF_cons, zpF_nil, rg1_a, rg2_a, len_t, len_l, tuple_l, isi_ii, isi_bi, isi_tt, isi_ll, isi_ss, sl1, Bool.not_true, Bool.not_false, app_b, app_l, tix_a, tix_l, reto_a, reto_l, List.getElem?_cons_zero, List.getElem?_cons_succ, paro_a, paro_k, neg_i, rev_l, cut_l, told_a, told_ok, told_err, zp_m, compx_a, compx_k, tx_a, tx_k, h, h2]
theorem nk_in (x : D) (h : dIsi "str" x = .ok (.bool true)) (h2 : dIn true x c_KINDS = .ok (.bool true)) : F_need_kind [x] = .err .badRule := by
  simp only [F_need_kind, b_need_kind, seq_a, seq_nx, seq_rt, seq_ct, seq_bk, seq_err, if_a, if_t, if_f, asg_a, asg_k, own_a, own_k, lc_a, lc_k, ex_a, ex_k, rt_a, rt_k, op_a, op_k, op_k2, un_a, cons_a, cons_k, cons_k2, nil_a, c_a, tup_a, tup_k, lst_a, lst_k, bl_a, bl_k, eif_a, eif_t, eif_f, nt_a, nt_k, an_a, an_t, an_f, or_a, or_t, or_f, van_a, van_t, van_f, vor_a, vor_t, vor_f, vnt_a, vnt_k, ch_a, ch_ka, ch_kb, ch_t, ch_f, ch_k2, par_a, par_k, tg_a, tg_k, nx_k, b_nm, b_pr, b_tr, tr_k, e_nm, e_pr, for_a, for_k, call_a, any_a, items_l, items_t, idx_a, idx_k, idx_k2, no_a, some_a, some_k, sl_a, sl_k, sl_k1, sl_k2, get_a, get_k, get_k1, get_k2, run_a, run_rt, run_ro, run_nx, runo_a, runo_k, next_a, err_a, v0, v1, kD_ok, kD_err, vw_nil, th_nil, frz_nil, unS_fz, unS_no, unS_ow, List.map_cons, List.map_nil, List.set_cons_zero, List.set_cons_succ, startD, List.replicate, List.cons_append, List.nil_append, List.length_cons, List.length_nil, Nat.reduceAdd, Nat.reduceSub, dAdd_i, dSub_i, dOrd_i, bMin2_i, bMax2_i, tx0, tx1, tx2, tx3, lx0, lx1, comp_a, comp_k, comp_nil, comp_cons, comp_k1, comp_t, comp_f, comp_k3, comp_tt, pure_ok, wipe_nil, wipe_cons, en_a, en_k, enF_nil, enF_cons, zp_a, zp_l, zp_t, zpF_cons, zpF_nil, rg1_a, rg2_a, len_t, len_l, tuple_l, isi_ii, isi_bi, isi_tt, isi_ll, isi_ss, sl1, Bool.not_true, Bool.not_false, app_b, app_l, tix_a, tix_l, reto_a, reto_l, List.getElem?_cons_zero, List.getElem?_cons_succ, paro_a, paro_k, neg_i, rev_l, cut_l, told_a, told_ok, told_err, zp_m, compx_a, compx_k, tx_a, tx_k, h, h2]
theorem nk_no (x : D) (h : dIsi "str" x = .ok (.bool false)) : F_need_kind [x] = .err .badRule := by
  simp only [F_need_kind, b_need_kind, seq_a, seq_nx, seq_rt, seq_ct, seq_bk, seq_err, if_a, if_t, if_f, asg_a, asg_k, own_a, own_k, lc_a, lc_k, ex_a, ex_k, rt_a, rt_k, op_a, op_k, op_k2, un_a, cons_a, cons_k, cons_k2, nil_a, c_a, tup_a, tup_k, lst_a, lst_k, bl_a, bl_k, eif_a, eif_t, eif_f, nt_a, nt_k, an_a, an_t, an_f, or_a, or_t, or_f, van_a, van_t, van_f, vor_a, vor_t, vor_f, vnt_a, vnt_k, ch_a, ch_ka, ch_kb, ch_t, ch_f, ch_k2, par_a, par_k, tg_a, tg_k, nx_k, b_nm, b_pr, b_tr, tr_k, e_nm, e_pr, for_a, for_k, call_a, any_a, items_l, items_t, idx_a, idx_k, idx_k2, no_a, some_a, some_k, sl_a, sl_k, sl_k1, sl_k2, get_a, get_k, get_k1, get_k2, run_a, run_rt, run_ro, run_nx, runo_a, runo_k, next_a, err_a, v0, v1, kD_ok, kD_err, vw_nil, th_nil, frz_nil, unS_fz, unS_no, unS_ow, List.map_cons, List.map_nil, List.set_cons_zero, List.set_cons_succ, startD, List.replicate, List.cons_append, List.nil_append, List.length_cons, List.length_nil, Nat.reduceAdd, Nat.reduceSub, dAdd_i, dSub_i, dOrd_i, bMin2_i, bMax2_i, tx0, tx1, tx2, tx3, lx0, lx1, comp_a, comp_k, comp_nil, comp_cons, comp_k1, comp_t, comp_f, comp_k3, comp_tt, pure_ok, wipe_nil, wipe_cons, en_a, en_k, enF_nil, enF_cons, zp_a, zp_l, zp_t, zpF_cons, zpF_nil, rg1_a, rg2_a, len_t, len_l, tuple_l, isi_ii, isi_bi, isi_tt, isi_ll, isi_ss, sl1, Bool.not_true, Bool.not_false, app_b, app_l, tix_a, tix_l, reto_a, reto_l, List.getElem?_cons_zero, List.getElem?_cons_succ, paro_a, paro_k, neg_i, rev_l, cut_l, told_a, told_ok, told_err, zp_m, compx_a, compx_k, tx_a, tx_k, h]
theorem need_kind_ok (k : Str) (h : k ∈ kindsL) : F_need_kind [.str k] = .ok .none := by
  have e := kind_in k
  have q : (kindsL.any fun z => z == k) = true := List.any_eq_true.mpr ⟨k, h, by simp⟩
  rw [q] at e
  exact nk_ev _ (isi_ss k) e
theorem nkl_ok (l0 x : D) (h : F_need_kind [x] = .ok .none) : L_need_kinds_1 [.fz l0, .fz x] = .ok (.nx [.fz l0, .fz x]) := by
  simp only [L_need_kinds_1, seq_a, seq_nx, seq_rt, seq_ct, seq_bk, seq_err, if_a, if_t, if_f, asg_a, asg_k, own_a, own_k, lc_a, lc_k, ex_a, ex_k, rt_a, rt_k, op_a, op_k, op_k2, un_a, cons_a, cons_k, cons_k2, nil_a, c_a, tup_a, tup_k, lst_a, lst_k, bl_a, bl_k, eif_a, eif_t, eif_f, nt_a, nt_k, an_a, an_t, an_f, or_a, or_t, or_f, van_a, van_t, van_f, vor_a, vor_t, vor_f, vnt_a, vnt_k, ch_a, ch_ka, ch_kb, ch_t, ch_f, ch_k2, par_a, par_k, tg_a, tg_k, nx_k, b_nm, b_pr, b_tr, tr_k, e_nm, e_pr, for_a, for_k, call_a, any_a, items_l, items_t, idx_a, idx_k, idx_k2, no_a, some_a, some_k, sl_a, sl_k, sl_k1, sl_k2, get_a, get_k, get_k1, get_k2, run_a, run_rt, run_ro, run_nx, runo_a, runo_k, next_a, err_a, v0, v1, kD_ok, kD_err, vw_nil, th_nil, frz_nil, unS_fz, unS_no, unS_ow, List.map_cons, List.map_nil, List.set_cons_zero, List.set_cons_succ, startD, List.replicate, List.cons_append, List.nil_append, List.length_cons, List.length_nil, Nat.reduceAdd, Nat.reduceSub, dAdd_i, dSub_i, dOrd_i, bMin2_i, bMax2_i, tx0, tx1, tx2, tx3, lx0, lx1, comp_a, comp_k, comp_nil, comp_cons, comp_k1, comp_t, comp_f, comp_k3, comp_tt, pure_ok, wipe_nil, wipe_cons, en_a, en_k, enF_nil, enF_cons, zp_a, zp_l, zp_t, zpF_cons, zpF_nil, rg1_a, rg2_a, len_t, len_l, tuple_l, isi_ii, isi_bi, isi_tt, isi_ll, isi_ss, sl1, Bool.not_true, Bool.not_false, app_b, app_l, tix_a, tix_l, reto_a, reto_l, List.getElem?_cons_zero, List.getElem?_cons_succ, paro_a, paro_k, neg_i, rev_l, cut_l, told_a, told_ok, told_err, zp_m, compx_a, compx_k, tx_a, tx_k, h]
theorem nkl_err (l0 x : D) (h : F_need_kind [x] = .err .badRule) : L_need_kinds_1 [.fz l0, .fz x] = .err .badRule := by
  simp only [L_need_kinds_1, seq_a, seq_nx, seq_rt, seq_ct, seq_bk, seq_err, if_a, if_t, if_f, asg_a, asg_k, own_a, own_k, lc_a, lc_k, ex_a, ex_k, rt_a, rt_k, op_a, op_k, op_k2, un_a, cons_a, cons_k, cons_k2, nil_a, c_a, tup_a, tup_k, lst_a, lst_k, bl_a, bl_k, eif_a, eif_t, eif_f, nt_a, nt_k, an_a, an_t, an_f, or_a, or_t, or_f, van_a, van_t, van_f, vor_a, vor_t, vor_f, vnt_a, vnt_k, ch_a, ch_ka, ch_kb, ch_t, ch_f, ch_k2, par_a, par_k, tg_a, tg_k, nx_k, b_nm, b_pr, b_tr, tr_k, e_nm, e_pr, for_a, for_k, call_a, any_a, items_l, items_t, idx_a, idx_k, idx_k2, no_a, some_a, some_k, sl_a, sl_k, sl_k1, sl_k2, get_a, get_k, get_k1, get_k2, run_a, run_rt, run_ro, run_nx, runo_a, runo_k, next_a, err_a, v0, v1, kD_ok, kD_err, vw_nil, th_nil, frz_nil, unS_fz, unS_no, unS_ow, List.map_cons, List.map_nil, List.set_cons_zero, List.set_cons_succ, startD, List.replicate, List.cons_append, List.nil_append, List.length_cons, List.length_nil, Nat.reduceAdd, Nat.reduceSub, dAdd_i, dSub_i, dOrd_i, bMin2_i, bMax2_i, tx0, tx1, tx2, tx3, lx0, lx1, comp_a, comp_k, comp_nil, comp_cons, comp_k1, comp_t, comp_f, comp_k3, comp_tt, pure_ok, wipe_nil, wipe_cons, en_a, en_k, enF_nil, enF_cons, zp_a, zp_l, zp_t, zpF_cons, zpF_nil, rg1_a, rg2_a, len_t, len_l, tuple_l, isi_ii, isi_bi, isi_tt, isi_ll, isi_ss, sl1, Bool.not_true, Bool.not_false, app_b, app_l, tix_a, tix_l, reto_a, reto_l, List.getElem?_cons_zero, List.getElem?_cons_succ, paro_a, paro_k, neg_i, rev_l, cut_l, told_a, told_ok, told_err, zp_m, compx_a, compx_k, tx_a, tx_k, h]
theorem nk_loop (l0 : D) (rest : List D) : ∀ (ks : List Str) (x1 : Sl), (∀ k ∈ ks, k ∈ kindsL) → ∃ y1, forL (.nm 1) L_need_kinds_1 (ks.map PyData.str ++ rest) [.fz l0, x1] = forL (.nm 1) L_need_kinds_1 rest [.fz l0, y1]
  | [], x1, _ => ⟨x1, rfl⟩
  | k :: ks, x1, h => by
    obtain ⟨y1, ih⟩ := nk_loop l0 rest ks (.fz (.str k)) fun x hx => h x (by simp [hx])
    refine ⟨y1, ?_⟩
    have e := nkl_ok l0 (.str k) (need_kind_ok k (h k (by simp)))
    rw [List.map_cons, List.cons_append]
    show (L_need_kinds_1 [.fz l0, .fz (.str k)]).bind _ = _
    rw [e]
    exact ih
theorem nk_stop (l0 x : D) (ks : List Str) (x1 : Sl) (h : ∀ k ∈ ks, k ∈ kindsL) (hx : F_need_kind [x] = .err .badRule) : forL (.nm 1) L_need_kinds_1 (ks.map PyData.str ++ [x]) [.fz l0, x1] = .err .badRule := by
  obtain ⟨y1, e⟩ := nk_loop l0 [x] ks x1 h
  rw [e]
  show (L_need_kinds_1 [.fz l0, .fz x]).bind _ = _
  rw [nkl_err l0 x hx]
  rfl
theorem nks_no (x : D) (h : dIsi "list" x = .ok (.bool false)) : F_need_kinds [x] = .err .badRule := by
  simp only [F_need_kinds, b_need_kinds, seq_a, seq_nx, seq_rt, seq_ct, seq_bk, seq_err, if_a, if_t, if_f, asg_a, asg_k, own_a, own_k, lc_a, lc_k, ex_a, ex_k, rt_a, rt_k, op_a, op_k, op_k2, un_a, cons_a, cons_k, cons_k2, nil_a, c_a, tup_a, tup_k, lst_a, lst_k, bl_a, bl_k, eif_a, eif_t, eif_f, nt_a, nt_k, an_a, an_t, an_f, or_a, or_t, or_f, van_a, van_t, van_f, vor_a, vor_t, vor_f, vnt_a, vnt_k, ch_a, ch_ka, ch_kb, ch_t, ch_f, ch_k2, par_a, par_k, tg_a, tg_k, nx_k, b_nm, b_pr, b_tr, tr_k, e_nm, e_pr, for_a, for_k, call_a, any_a, items_l, items_t, idx_a, idx_k, idx_k2, no_a, some_a, some_k, sl_a, sl_k, sl_k1, sl_k2, get_a, get_k, get_k1, get_k2, run_a, run_rt, run_ro, run_nx, runo_a, runo_k, next_a, err_a, v0, v1, kD_ok, kD_err, vw_nil, th_nil, frz_nil, unS_fz, unS_no, unS_ow, List.map_cons, List.map_nil, List.set_cons_zero, List.set_cons_succ, startD, List.replicate, List.cons_append, List.nil_append, List.length_cons, List.length_nil, Nat.reduceAdd, Nat.reduceSub, dAdd_i, dSub_i, dOrd_i, bMin2_i, bMax2_i, tx0, tx1, tx2, tx3, lx0, lx1, comp_a, comp_k, comp_nil, comp_cons, comp_k1, comp_t, comp_f, comp_k3, comp_tt, pure_ok, wipe_nil, wipe_cons, en_a, en_k, enF_nil, enF_cons, zp_a, zp_l, zp_t, zpF_cons, zpF_nil, rg1_a, rg2_a, len_t, len_l, tuple_l, isi_ii, isi_bi, isi_tt, isi_ll, isi_ss, sl1, Bool.not_true, Bool.not_false, app_b, app_l, tix_a, tix_l, reto_a, reto_l, List.getElem?_cons_zero, List.getElem?_cons_succ, paro_a, paro_k, neg_i, rev_l, cut_l, told_a, told_ok, told_err, zp_m, compx_a, compx_k, tx_a, tx_k, h]
theorem nks_nil : F_need_kinds [.list []] = .err .badRule := by
  simp only [F_need_kinds, b_need_kinds, seq_a, seq_nx, seq_rt, seq_ct, seq_bk, seq_err, if_a, if_t, if_f, asg_a, asg_k, own_a, own_k, lc_a, lc_k, ex_a, ex_k, rt_a, rt_k, op_a, op_k, op_k2, un_a, cons_a, cons_k, cons_k2, nil_a, c_a, tup_a, tup_k, lst_a, lst_k, bl_a, bl_k, eif_a, eif_t, eif_f, nt_a, nt_k, an_a, an_t, an_f, or_a, or_t, or_f, van_a, van_t, van_f, vor_a, vor_t, vor_f, vnt_a, vnt_k, ch_a, ch_ka, ch_kb, ch_t, ch_f, ch_k2, par_a, par_k, tg_a, tg_k, nx_k, b_nm, b_pr, b_tr, tr_k, e_nm, e_pr, for_a, for_k, call_a, any_a, items_l, items_t, idx_a, idx_k, idx_k2, no_a, some_a, some_k, sl_a, sl_k, sl_k1, sl_k2, get_a, get_k, get_k1, get_k2, run_a, run_rt, run_ro, run_nx, runo_a, runo_k, next_a, err_a, v0, v1, kD_ok, kD_err, vw_nil, th_nil, frz_nil, unS_fz, unS_no, unS_ow, List.map_cons, List.map_nil, List.set_cons_zero, List.set_cons_succ, startD, List.replicate, List.cons_append, List.nil_append, List.length_cons, List.length_nil, Nat.reduceAdd, Nat.reduceSub, dAdd_i, dSub_i, dOrd_i, bMin2_i, bMax2_i, tx0, tx1, tx2, tx3, lx0, lx1, comp_a, comp_k, comp_nil, comp_cons, comp_k1, comp_t, comp_f, comp_k3, comp_tt, pure_ok, wipe_nil, wipe_cons, en_a, en_k, enF_nil, enF_cons, zp_a, zp_l, zp_t, zpF_cons, zpF_nil, rg1_a, rg2_a, len_t, len_l, tuple_l, isi_ii, isi_bi, isi_tt, isi_ll, isi_ss, sl1, Bool.not_true, Bool.not_false, app_b, app_l, tix_a, tix_l, reto_a, reto_l, List.getElem?_cons_zero, List.getElem?_cons_succ, paro_a, paro_k, neg_i, rev_l, cut_l, told_a, told_ok, told_err, zp_m, compx_a, compx_k, tx_a, tx_k, eq_nils]
theorem nks_err (l : List D) (h0 : dEq (.list l) (.list []) = .ok (.bool false)) (e : forL (.nm 1) L_need_kinds_1 l [.fz (.list l), .no] = .err .badRule) : F_need_kinds [.list l] = .err .badRule := by
  simp only [F_need_kinds, b_need_kinds, seq_a, seq_nx, seq_rt, seq_ct, seq_bk, seq_err, if_a, if_t, if_f, asg_a, asg_k, own_a, own_k, lc_a, lc_k, ex_a, ex_k, rt_a, rt_k, op_a, op_k, op_k2, un_a, cons_a, cons_k, cons_k2, nil_a, c_a, tup_a, tup_k, lst_a, lst_k, bl_a, bl_k, eif_a, eif_t, eif_f, nt_a, nt_k, an_a, an_t, an_f, or_a, or_t, or_f, van_a, van_t, van_f, vor_a, vor_t, vor_f, vnt_a, vnt_k, ch_a, ch_ka, ch_kb, ch_t, ch_f, ch_k2, par_a, par_k, tg_a, tg_k, nx_k, b_nm, b_pr, b_tr, tr_k, e_nm, e_pr, for_a, for_k, call_a, any_a, items_l, items_t, idx_a, idx_k, idx_k2, no_a, some_a, some_k, sl_a, sl_k, sl_k1, sl_k2, get_a, get_k, get_k1, get_k2, run_a, run_rt, run_ro, run_nx, runo_a, runo_k, next_a, err_a, v0, v1, kD_ok, kD_err, vw_nil, th_nil, frz_nil, unS_fz, unS_no, unS_ow, List.map_cons, List.map_nil, List.set_cons_zero, List.set_cons_succ, startD, List.replicate, List.cons_append, List.nil_append, List.length_cons, List.length_nil, Nat.reduceAdd, Nat.reduceSub, dAdd_i, dSub_i, dOrd_i, bMin2_i, bMax2_i, tx0, tx1, tx2, tx3, lx0, lx1, comp_a, comp_k, comp_nil, comp_cons, comp_k1, comp_t, comp_f, comp_k3, comp_tt, pure_ok, wipe_nil, wipe_cons, en_a, en_k, enF_nil, enF_cons, zp_a, zp_l, zp_t, zpF_cons, zpF_nil, rg1_a, rg2_a, len_t, len_l, tuple_l, isi_ii, isi_bi, isi_tt, isi_ll, isi_ss, sl1, Bool.not_true, Bool.not_false, app_b, app_l, tix_a, tix_l, reto_a, reto_l, List.getElem?_cons_zero, List.getElem?_cons_succ, paro_a, paro_k, neg_i, rev_l, cut_l, told_a, told_ok, told_err, zp_m, compx_a, compx_k, tx_a, tx_k, h0, e]
theorem nks_len (l : List D) (n : Int) (y1 : Sl) (h0 : dEq (.list l) (.list []) = .ok (.bool false)) (e : forL (.nm 1) L_need_kinds_1 l [.fz (.list l), .no] = .ok (.nx [.fz (.list l), y1])) (hn : dLenSet (.list l) = .ok (.int n)) (hd : dNe (.int n) (.int (l.length : Nat)) = .ok (.bool true)) : F_need_kinds [.list l] = .err .badRule := by
  simp only [F_need_kinds, b_need_kinds, seq_a, seq_nx, seq_rt, seq_ct, seq_bk, seq_err, if_a, if_t, if_f, asg_a, asg_k, own_a, own_k, lc_a, lc_k, ex_a, ex_k, rt_a, rt_k, op_a, op_k, op_k2, un_a, cons_a, cons_k, cons_k2, nil_a, c_a, tup_a, tup_k, lst_a, lst_k, bl_a, bl_k, eif_a, eif_t, eif_f, nt_a, nt_k, an_a, an_t, an_f, or_a, or_t, or_f, van_a, van_t, van_f, vor_a, vor_t, vor_f, vnt_a, vnt_k, ch_a, ch_ka, ch_kb, ch_t, ch_f, ch_k2, par_a, par_k, tg_a, tg_k, nx_k, b_nm, b_pr, b_tr, tr_k, e_nm, e_pr, for_a, for_k, call_a, any_a, items_l, items_t, idx_a, idx_k, idx_k2, no_a, some_a, some_k, sl_a, sl_k, sl_k1, sl_k2, get_a, get_k, get_k1, get_k2, run_a, run_rt, run_ro, run_nx, runo_a, runo_k, next_a, err_a, v0, v1, kD_ok, kD_err, vw_nil, th_nil, frz_nil, unS_fz, unS_no, unS_ow, List.map_cons, List.map_nil, List.set_cons_zero, List.set_cons_succ, startD, List.replicate, List.cons_append, List.nil_append, List.length_cons, List.length_nil, Nat.reduceAdd, Nat.reduceSub, dAdd_i, dSub_i, dOrd_i, bMin2_i, bMax2_i, tx0, tx1, tx2, tx3, lx0, lx1, comp_a, comp_k, comp_nil, comp_cons, comp_k1, comp_t, comp_f, comp_k3, comp_tt, pure_ok, wipe_nil, wipe_cons, en_a, en_k, enF_nil, enF_cons, zp_a, zp_l, zp_t, zpF_cons, zpF_nil, rg1_a, rg2_a, len_t, len_l, tuple_l, isi_ii, isi_bi, isi_tt, isi_ll, isi_ss, sl1, Bool.not_true, Bool.not_false, app_b, app_l, tix_a, tix_l, reto_a, reto_l, List.getElem?_cons_zero, List.getElem?_cons_succ, paro_a, paro_k, neg_i, rev_l, cut_l, told_a, told_ok, told_err, zp_m, compx_a, compx_k, tx_a, tx_k, h0, e, hn, hd]
theorem nks_ok (l : List D) (n : Int) (y1 : Sl) (h0 : dEq (.list l) (.list []) = .ok (.bool false)) (e : forL (.nm 1) L_need_kinds_1 l [.fz (.list l), .no] = .ok (.nx [.fz (.list l), y1])) (hn : dLenSet (.list l) = .ok (.int n)) (hd : dNe (.int n) (.int (l.length : Nat)) = .ok (.bool false)) : F_need_kinds [.list l] = .ok .none := by
  simp only [F_need_kinds, b_need_kinds, seq_a, seq_nx, seq_rt, seq_ct, seq_bk, seq_err, if_a, if_t, if_f, asg_a, asg_k, own_a, own_k, lc_a, lc_k, ex_a, ex_k, rt_a, rt_k, op_a, op_k, op_k2, un_a, cons_a, cons_k, cons_k2, nil_a, c_a, tup_a, tup_k, lst_a, lst_k, bl_a, bl_k, eif_a, eif_t, eif_f, nt_a, nt_k, an_a, an_t, an_f, or_a, or_t, or_f, van_a, van_t, van_f, vor_a, vor_t, vor_f, vnt_a, vnt_k, ch_a, ch_ka, ch_kb, ch_t, ch_f, ch_k2, par_a, par_k, tg_a, tg_k, nx_k, b_nm, b_pr, b_tr, tr_k, e_nm, e_pr, for_a, for_k, call_a, any_a, items_l, items_t, idx_a, idx_k, idx_k2, no_a, some_a, some_k, sl_a, sl_k, sl_k1, sl_k2, get_a, get_k, get_k1, get_k2, run_a, run_rt, run_ro, run_nx, runo_a, runo_k, next_a, err_a, v0, v1, kD_ok, kD_err, vw_nil, th_nil, frz_nil, unS_fz, unS_no, unS_ow, List.map_cons, List.map_nil, List.set_cons_zero, List.set_cons_succ, startD, List.replicate, List.cons_append, List.nil_append, List.length_cons, List.length_nil, Nat.reduceAdd, Nat.reduceSub, dAdd_i, dSub_i, dOrd_i, bMin2_i, bMax2_i, tx0, tx1, tx2, tx3, lx0, lx1, comp_a, comp_k, comp_nil, comp_cons, comp_k1, comp_t, comp_f, comp_k3, comp_tt, pure_ok, wipe_nil, wipe_cons, en_a, en_k, enF_nil, enF_cons, zp_a, zp_l, zp_t, zpF_cons, zpF_nil, rg1_a, rg2_a, len_t, len_l, tuple_l, isi_ii, isi_bi, isi_tt, isi_ll, isi_ss, sl1, Bool.not_true, Bool.not_false, app_b, app_l, tix_a, tix_l, reto_a, reto_l, List.getElem?_cons_zero, List.getElem?_cons_succ, paro_a, paro_k, neg_i, rev_l, cut_l, told_a, told_ok, told_err, zp_m, compx_a, compx_k, tx_a, tx_k, h0, e, hn, hd]
theorem lenset_s (x : Str) (xs : List Str) (hl : (x :: xs).length ≤ 4000) : dLenSet (.list ((x :: xs).map PyData.str)) = .ok (.int ((DLS.metS (x :: xs)).length : Nat)) := by
  have e1 : intsOf ((x :: xs).map PyData.str) = none := rfl
  unfold dLenSet
  simp only [e1, strsOf_map]
  exact if_pos hl
theorem met_new : ∀ (l σ : List Str), (∀ x ∈ l, x ∉ σ) → l.Nodup → l.foldl DLS.dedS σ = σ ++ l
  | [], σ, _, _ => by simp
  | x :: l, σ, h, nd => by
    rw [List.nodup_cons] at nd
    have hx : σ.any (· == x) = false := by
      rw [List.any_eq_false]
      intro y hy e
      rw [beq_iff_eq] at e
      subst e
      exact h y (by simp) hy
    have e : DLS.dedS σ x = σ ++ [x] := by
      unfold DLS.dedS
      rw [hx]
      rfl
    rw [List.foldl_cons, e, met_new l (σ ++ [x]) (fun y hy => ?_) nd.2, List.append_assoc]
    · rfl
    · intro q
      rcases List.mem_append.mp q with q | q
      · exact h y (by simp [hy]) q
      · rw [List.mem_singleton.mp q] at hy
        exact nd.1 hy
theorem met_old : ∀ (l σ : List Str), (∀ x ∈ l, x ∈ σ) → l.foldl DLS.dedS σ = σ
  | [], σ, _ => rfl
  | x :: l, σ, h => by
    have hx : σ.any (· == x) = true := List.any_eq_true.mpr ⟨x, h x (by simp), by simp⟩
    have e : DLS.dedS σ x = σ := by
      unfold DLS.dedS
      rw [hx]
      rfl
    rw [List.foldl_cons, e]
    exact met_old l σ fun y hy => h y (by simp [hy])
theorem met_nd {ks : List Str} (h : ks.Nodup) : DLS.metS ks = ks := by
  have := met_new ks [] (by simp) h
  exact this
theorem met_twice {ks : List Str} (h : ks.Nodup) : DLS.metS (ks ++ ks) = ks := by
  have e := met_nd h
  unfold DLS.metS at e ⊢
  rw [List.foldl_append, e]
  exact met_old ks ks fun x hx => hx
/-- some kinds, none twice -/
structure KL (ks : List Str) : Prop where
  ne : ks ≠ []
  sub : ∀ k ∈ ks, k ∈ kindsL
  nd : ks.Nodup
  len : ks.length ≤ 9
theorem KL.of_sub {ks : List Str} (h : ks.Sublist kindsL) (ne : ks ≠ []) : KL ks := ⟨ne, fun k hk => h.subset hk, List.Pairwise.sublist h (show kindsL.Nodup by decide +kernel), h.length_le⟩
theorem KL.rev {ks : List Str} (h : KL ks) : KL ks.reverse := ⟨by simpa using h.ne, fun k hk => h.sub k (List.mem_reverse.mp hk), List.pairwise_reverse.mpr (h.nd.imp fun a b => Ne.symm a b), by rw [List.length_reverse]; exact h.len⟩
theorem okFl_kinds : ∀ (ks : List Str), (∀ k ∈ ks, k ∈ kindsL) → (ks.map PyData.str).all okFl = true := fun ks h => by
  rw [List.all_eq_true]
  intro d hd
  obtain ⟨k, hk, rfl⟩ := List.mem_map.mp hd
  have := h k hk
  simp only [kindsL, List.mem_cons, List.not_mem_nil, or_false] at this
  rcases this with rfl | rfl | rfl | rfl | rfl | rfl | rfl | rfl | rfl <;> kernel_rfl
theorem ne_nilL (l : List D) (h : l.all okFl = true) (ne : l ≠ []) : dEq (.list l) (.list []) = .ok (.bool false) := by
  cases l with
  | nil => exact absurd rfl ne
  | cons x l => exact eq_nil x l (shp_flatL _ h)
theorem need_kinds_ok {ks : List Str} (K : KL ks) : F_need_kinds [.list (ks.map PyData.str)] = .ok .none := by
  obtain ⟨y1, e⟩ := nk_loop (.list (ks.map PyData.str)) [] ks .no K.sub
  rw [List.append_nil] at e
  have h0 := ne_nilL _ (okFl_kinds ks K.sub) (by simpa using K.ne)
  have hl := K.len
  have hm := met_nd K.nd
  cases ks with
  | nil => exact absurd rfl K.ne
  | cons x xs =>
    have hn := lenset_s x xs (by omega)
    rw [hm] at hn
    refine nks_ok _ _ y1 h0 e hn ?_
    rw [neI, List.length_map]
    simp
theorem need_kinds_twice {ks : List Str} (K : KL ks) : F_need_kinds [.list (ks.map PyData.str ++ ks.map PyData.str)] = .err .badRule := by
  rw [← List.map_append]
  have sub : ∀ k ∈ ks ++ ks, k ∈ kindsL := fun k hk => by
    rcases List.mem_append.mp hk with h | h <;> exact K.sub k h
  obtain ⟨y1, e⟩ := nk_loop (.list ((ks ++ ks).map PyData.str)) [] (ks ++ ks) .no sub
  rw [List.append_nil] at e
  have h0 := ne_nilL _ (okFl_kinds (ks ++ ks) sub) (by simpa using K.ne)
  have hl := K.len
  have hm := met_twice K.nd
  cases ks with
  | nil => exact absurd rfl K.ne
  | cons x xs =>
    have hn := lenset_s x (xs ++ (x :: xs)) (by simp at hl ⊢; omega)
    have hm' : DLS.metS (x :: (xs ++ (x :: xs))) = x :: xs := hm
    rw [hm'] at hn
    refine nks_len _ _ y1 h0 e hn ?_
    rw [neI, List.length_map]
    congr 2
    rw [Bool.not_eq_true', beq_eq_false_iff_ne]
    simp
    omega
theorem need_kinds_more {ks : List Str} (K : KL ks) (x : D) (hx : F_need_kind [x] = .err .badRule) (hf : okFl x = true) : F_need_kinds [.list (ks.map PyData.str ++ [x])] = .err .badRule := by
  refine nks_err _ (ne_nilL _ ?_ (by simp)) (nk_stop _ x ks .no K.sub hx)
  rw [List.all_append, okFl_kinds ks K.sub, List.all_cons, hf]
  rfl
/-! kinds that are drawn -/
theorem t1_ev (v j u m : Int) (s1 z : Option D) (hd : F__law_drawn [.int v, .int j] = .ok (.int u)) (hm : dMod (.int u) (.int 3) = .ok (.int m)) : t__law_some_1 [some (.int v), s1, some (.int j), z] = .ok (m == 0) := by
  simp only [t__law_some_1, seq_a, seq_nx, seq_rt, seq_ct, seq_bk, seq_err, if_a, if_t, if_f, asg_a, asg_k, own_a, own_k, lc_a, lc_k, ex_a, ex_k, rt_a, rt_k, op_a, op_k, op_k2, un_a, cons_a, cons_k, cons_k2, nil_a, c_a, tup_a, tup_k, lst_a, lst_k, bl_a, bl_k, eif_a, eif_t, eif_f, nt_a, nt_k, an_a, an_t, an_f, or_a, or_t, or_f, van_a, van_t, van_f, vor_a, vor_t, vor_f, vnt_a, vnt_k, ch_a, ch_ka, ch_kb, ch_t, ch_f, ch_k2, par_a, par_k, tg_a, tg_k, nx_k, b_nm, b_pr, b_tr, tr_k, e_nm, e_pr, for_a, for_k, call_a, any_a, items_l, items_t, idx_a, idx_k, idx_k2, no_a, some_a, some_k, sl_a, sl_k, sl_k1, sl_k2, get_a, get_k, get_k1, get_k2, run_a, run_rt, run_ro, run_nx, runo_a, runo_k, next_a, err_a, v0, v1, kD_ok, kD_err, vw_nil, th_nil, frz_nil, unS_fz, unS_no, unS_ow, List.map_cons, List.map_nil, List.set_cons_zero, List.set_cons_succ, startD, List.replicate, List.cons_append, List.nil_append, List.length_cons, List.length_nil, Nat.reduceAdd, Nat.reduceSub, dAdd_i, dSub_i, dOrd_i, bMin2_i, bMax2_i, tx0, tx1, tx2, tx3, lx0, lx1, comp_a, comp_k, comp_nil, comp_cons, comp_k1, comp_t, comp_f, comp_k3, comp_tt, pure_ok, wipe_nil, wipe_cons, en_a, en_k, enF_nil, enF_cons, zp_a, zp_l, zp_t, zpF_cons, zpF_nil, rg1_a, rg2_a, len_t, len_l, tuple_l, isi_ii, isi_bi, isi_tt, isi_ll, isi_ss, sl1, Bool.not_true, Bool.not_false, app_b, app_l, tix_a, tix_l, reto_a, reto_l, List.getElem?_cons_zero, List.getElem?_cons_succ, paro_a, paro_k, neg_i, rev_l, cut_l, told_a, told_ok, told_err, zp_m, compx_a, compx_k, tx_a, tx_k, hd, hm, eqI]
theorem comp1 (v : Int) : ∀ (ks : List Str) (j : Int), ∃ ks' : List Str, ks'.Sublist ks ∧ compL [some (.int v), none, none, none] (.pr (.nm 2) (.nm 3)) t__law_some_1 (eVar 3) (enF j (ks.map PyData.str)) = .ok (ks'.map PyData.str)
  | [], j => ⟨[], List.Sublist.slnil, rfl⟩
  | k :: ks, j => by
    obtain ⟨ks', hs, ih⟩ := comp1 v ks (j + 1)
    obtain ⟨u, _, hd⟩ := drawn_ok v j
    have ht := t1_ev v j u _ none (some (.str k)) hd (dMod_i (by decide))
    rw [List.map_cons, enF_cons]
    cases hb : (u % 3 == 0) with
    | true =>
      rw [hb] at ht
      refine ⟨k :: ks', hs.cons₂ k, ?_⟩
      rw [comp_cons]
      show cK1 _ _ _ _ _ [some (.int v), none, some (.int j), some (.str k)] = _
      rw [comp_k1, ht, comp_t]
      show kD _ (R.ok (PyData.str k)) = _
      rw [kD_ok, comp_k3, ih]
      rfl
    | false =>
      rw [hb] at ht
      refine ⟨ks', hs.cons k, ?_⟩
      rw [comp_cons]
      show cK1 _ _ _ _ _ [some (.int v), none, some (.int j), some (.str k)] = _
      rw [comp_k1, ht, comp_f, ih]
theorem t2_ev (s0 s1 s2 : Option D) (z : Str) : ∃ b, t__law_some_2 [s0, s1, s2, some (.str z)] = .ok b := by
  obtain ⟨b, h⟩ : ∃ b, dIn true (.str z) (.tuple [.str "from", .str "off"]) = .ok (.bool b) := ⟨!([PyData.str "from", .str "off"].any fun w => PyData.eqv w (.str z)), by
    show (if flatD (.str z) = true ∧ [PyData.str "from", .str "off"].all flatD = true then R.ok (PyData.bool (!([PyData.str "from", .str "off"].any fun w => PyData.eqv w (.str z)))) else .bad) = _
    rw [if_pos ⟨rfl, rfl⟩]⟩
  refine ⟨b, ?_⟩
  simp only [t__law_some_2, seq_a, seq_nx, seq_rt, seq_ct, seq_bk, seq_err, if_a, if_t, if_f, asg_a, asg_k, own_a, own_k, lc_a, lc_k, ex_a, ex_k, rt_a, rt_k, op_a, op_k, op_k2, un_a, cons_a, cons_k, cons_k2, nil_a, c_a, tup_a, tup_k, lst_a, lst_k, bl_a, bl_k, eif_a, eif_t, eif_f, nt_a, nt_k, an_a, an_t, an_f, or_a, or_t, or_f, van_a, van_t, van_f, vor_a, vor_t, vor_f, vnt_a, vnt_k, ch_a, ch_ka, ch_kb, ch_t, ch_f, ch_k2, par_a, par_k, tg_a, tg_k, nx_k, b_nm, b_pr, b_tr, tr_k, e_nm, e_pr, for_a, for_k, call_a, any_a, items_l, items_t, idx_a, idx_k, idx_k2, no_a, some_a, some_k, sl_a, sl_k, sl_k1, sl_k2, get_a, get_k, get_k1, get_k2, run_a, run_rt, run_ro, run_nx, runo_a, runo_k, next_a, err_a, v0, v1, kD_ok, kD_err, vw_nil, th_nil, frz_nil, unS_fz, unS_no, unS_ow, List.map_cons, List.map_nil, List.set_cons_zero, List.set_cons_succ, startD, List.replicate, List.cons_append, List.nil_append, List.length_cons, List.length_nil, Nat.reduceAdd, Nat.reduceSub, dAdd_i, dSub_i, dOrd_i, bMin2_i, bMax2_i, tx0, tx1, tx2, tx3, lx0, lx1, comp_a, comp_k, comp_nil, comp_cons, comp_k1, comp_t, comp_f, comp_k3, comp_tt, pure_ok, wipe_nil, wipe_cons, en_a, en_k, enF_nil, enF_cons, zp_a, zp_l, zp_t, zpF_cons, zpF_nil, rg1_a, rg2_a, len_t, len_l, tuple_l, isi_ii, isi_bi, isi_tt, isi_ll, isi_ss, sl1, Bool.not_true, Bool.not_false, app_b, app_l, tix_a, tix_l, reto_a, reto_l, List.getElem?_cons_zero, List.getElem?_cons_succ, paro_a, paro_k, neg_i, rev_l, cut_l, told_a, told_ok, told_err, zp_m, compx_a, compx_k, tx_a, tx_k, h]
theorem comp2 (s0 s1 s2 : Option D) : ∀ (ks : List Str), ∃ ks' : List Str, ks'.Sublist ks ∧ compL [s0, s1, s2, none] (.nm 3) t__law_some_2 (eVar 3) (ks.map PyData.str) = .ok (ks'.map PyData.str)
  | [] => ⟨[], List.Sublist.slnil, rfl⟩
  | k :: ks => by
    obtain ⟨ks', hs, ih⟩ := comp2 s0 s1 s2 ks
    obtain ⟨b, ht⟩ := t2_ev s0 s1 s2 k
    rw [List.map_cons]
    cases b with
    | true =>
      refine ⟨k :: ks', hs.cons₂ k, ?_⟩
      rw [comp_cons]
      show cK1 _ _ _ _ _ [s0, s1, s2, some (.str k)] = _
      rw [comp_k1, ht, comp_t]
      show kD _ (R.ok (PyData.str k)) = _
      rw [kD_ok, comp_k3, ih]
      rfl
    | false =>
      refine ⟨ks', hs.cons k, ?_⟩
      rw [comp_cons]
      show cK1 _ _ _ _ _ [s0, s1, s2, some (.str k)] = _
      rw [comp_k1, ht, comp_f, ih]
theorem s_tt (v m : Int) (k1 k2 : List D) (h5 : dMod (.int v) (.int 5) = .ok (.int m)) (hp : pGt m 0 = true) (c1 : compL [some (.int v), none, none, none] (.pr (.nm 2) (.nm 3)) t__law_some_1 (eVar 3) (enF 0 kindsD) = .ok k1) (c2 : compL [some (.int v), some (.list k1), none, none] (.nm 3) t__law_some_2 (eVar 3) k1 = .ok k2) (hn : dNe (.list k2) (.list []) = .ok (.bool true)) : F__law_some [.int v] = .ok (.list k2.reverse) := by
  have en : enK [.list kindsD] = .ok (enF 0 kindsD) := en_k kindsD
  have hk : F__law_kinds [] = .ok (.list kindsD) := kinds_ok
  generalize kindsD = kk at c1 en hk
  simp only [F__law_some, b__law_some, seq_a, seq_nx, seq_rt, seq_ct, seq_bk, seq_err, if_a, if_t, if_f, asg_a, asg_k, own_a, own_k, lc_a, lc_k, ex_a, ex_k, rt_a, rt_k, op_a, op_k, op_k2, un_a, cons_a, cons_k, cons_k2, nil_a, c_a, tup_a, tup_k, lst_a, lst_k, bl_a, bl_k, eif_a, eif_t, eif_f, nt_a, nt_k, an_a, an_t, an_f, or_a, or_t, or_f, van_a, van_t, van_f, vor_a, vor_t, vor_f, vnt_a, vnt_k, ch_a, ch_ka, ch_kb, ch_t, ch_f, ch_k2, par_a, par_k, tg_a, tg_k, nx_k, b_nm, b_pr, b_tr, tr_k, e_nm, e_pr, for_a, for_k, call_a, any_a, items_l, items_t, idx_a, idx_k, idx_k2, no_a, some_a, some_k, sl_a, sl_k, sl_k1, sl_k2, get_a, get_k, get_k1, get_k2, run_a, run_rt, run_ro, run_nx, runo_a, runo_k, next_a, err_a, v0, v1, kD_ok, kD_err, vw_nil, th_nil, frz_nil, unS_fz, unS_no, unS_ow, List.map_cons, List.map_nil, List.set_cons_zero, List.set_cons_succ, startD, List.replicate, List.cons_append, List.nil_append, List.length_cons, List.length_nil, Nat.reduceAdd, Nat.reduceSub, dAdd_i, dSub_i, dOrd_i, bMin2_i, bMax2_i, tx0, tx1, tx2, tx3, lx0, lx1, comp_a, comp_k, comp_nil, comp_cons, comp_k1, comp_t, comp_f, comp_k3, comp_tt, pure_ok, wipe_nil, wipe_cons, en_a, en_k, enF_nil, enF_cons, zp_a, zp_l, zp_t, zpF_cons, zpF_nil, rg1_a, rg2_a, len_t, len_l, tuple_l, isi_ii, isi_bi, isi_tt, isi_ll, isi_ss, sl1, Bool.not_true, Bool.not_false, app_b, app_l, tix_a, tix_l, reto_a, reto_l, List.getElem?_cons_zero, List.getElem?_cons_succ, paro_a, paro_k, neg_i, rev_l, cut_l, told_a, told_ok, told_err, zp_m, compx_a, compx_k, tx_a, tx_k, hk, en, c1, h5, hp, c2, hn]
theorem s_tf (v m q w : Int) (z : D) (k1 k2 : List D) (h5 : dMod (.int v) (.int 5) = .ok (.int m)) (hp : pGt m 0 = true) (c1 : compL [some (.int v), none, none, none] (.pr (.nm 2) (.nm 3)) t__law_some_1 (eVar 3) (enF 0 kindsD) = .ok k1) (c2 : compL [some (.int v), some (.list k1), none, none] (.nm 3) t__law_some_2 (eVar 3) k1 = .ok k2) (hn : dNe (.list k2) (.list []) = .ok (.bool false))
    (hq : dFdiv (.int v) (.int 8) = .ok (.int q)) (hw : dMod (.int q) (.int 9) = .ok (.int w)) (hx : dIx (.list kindsD) (.int w) = .ok z) : F__law_some [.int v] = .ok (.list [z]) := by
  have en : enK [.list kindsD] = .ok (enF 0 kindsD) := en_k kindsD
  have hk : F__law_kinds [] = .ok (.list kindsD) := kinds_ok
  generalize kindsD = kk at c1 en hk hx
  simp only [F__law_some, b__law_some, seq_a, seq_nx, seq_rt, seq_ct, seq_bk, seq_err, if_a, if_t, if_f, asg_a, asg_k, own_a, own_k, lc_a, lc_k, ex_a, ex_k, rt_a, rt_k, op_a, op_k, op_k2, un_a, cons_a, cons_k, cons_k2, nil_a, c_a, tup_a, tup_k, lst_a, lst_k, bl_a, bl_k, eif_a, eif_t, eif_f, nt_a, nt_k, an_a, an_t, an_f, or_a, or_t, or_f, van_a, van_t, van_f, vor_a, vor_t, vor_f, vnt_a, vnt_k, ch_a, ch_ka, ch_kb, ch_t, ch_f, ch_k2, par_a, par_k, tg_a, tg_k, nx_k, b_nm, b_pr, b_tr, tr_k, e_nm, e_pr, for_a, for_k, call_a, any_a, items_l, items_t, idx_a, idx_k, idx_k2, no_a, some_a, some_k, sl_a, sl_k, sl_k1, sl_k2, get_a, get_k, get_k1, get_k2, run_a, run_rt, run_ro, run_nx, runo_a, runo_k, next_a, err_a, v0, v1, kD_ok, kD_err, vw_nil, th_nil, frz_nil, unS_fz, unS_no, unS_ow, List.map_cons, List.map_nil, List.set_cons_zero, List.set_cons_succ, startD, List.replicate, List.cons_append, List.nil_append, List.length_cons, List.length_nil, Nat.reduceAdd, Nat.reduceSub, dAdd_i, dSub_i, dOrd_i, bMin2_i, bMax2_i, tx0, tx1, tx2, tx3, lx0, lx1, comp_a, comp_k, comp_nil, comp_cons, comp_k1, comp_t, comp_f, comp_k3, comp_tt, pure_ok, wipe_nil, wipe_cons, en_a, en_k, enF_nil, enF_cons, zp_a, zp_l, zp_t, zpF_cons, zpF_nil, rg1_a, rg2_a, len_t, len_l, tuple_l, isi_ii, isi_bi, isi_tt, isi_ll, isi_ss, sl1, Bool.not_true, Bool.not_false, app_b, app_l, tix_a, tix_l, reto_a, reto_l, List.getElem?_cons_zero, List.getElem?_cons_succ, paro_a, paro_k, neg_i, rev_l, cut_l, told_a, told_ok, told_err, zp_m, compx_a, compx_k, tx_a, tx_k, hk, en, c1, h5, hp, c2, hn, hq, hw, hx]
theorem s_ft (v m : Int) (k1 : List D) (h5 : dMod (.int v) (.int 5) = .ok (.int m)) (hp : pGt m 0 = false) (c1 : compL [some (.int v), none, none, none] (.pr (.nm 2) (.nm 3)) t__law_some_1 (eVar 3) (enF 0 kindsD) = .ok k1) (hn : dNe (.list k1) (.list []) = .ok (.bool true)) : F__law_some [.int v] = .ok (.list k1.reverse) := by
  have en : enK [.list kindsD] = .ok (enF 0 kindsD) := en_k kindsD
  have hk : F__law_kinds [] = .ok (.list kindsD) := kinds_ok
  generalize kindsD = kk at c1 en hk
  simp only [F__law_some, b__law_some, seq_a, seq_nx, seq_rt, seq_ct, seq_bk, seq_err, if_a, if_t, if_f, asg_a, asg_k, own_a, own_k, lc_a, lc_k, ex_a, ex_k, rt_a, rt_k, op_a, op_k, op_k2, un_a, cons_a, cons_k, cons_k2, nil_a, c_a, tup_a, tup_k, lst_a, lst_k, bl_a, bl_k, eif_a, eif_t, eif_f, nt_a, nt_k, an_a, an_t, an_f, or_a, or_t, or_f, van_a, van_t, van_f, vor_a, vor_t, vor_f, vnt_a, vnt_k, ch_a, ch_ka, ch_kb, ch_t, ch_f, ch_k2, par_a, par_k, tg_a, tg_k, nx_k, b_nm, b_pr, b_tr, tr_k, e_nm, e_pr, for_a, for_k, call_a, any_a, items_l, items_t, idx_a, idx_k, idx_k2, no_a, some_a, some_k, sl_a, sl_k, sl_k1, sl_k2, get_a, get_k, get_k1, get_k2, run_a, run_rt, run_ro, run_nx, runo_a, runo_k, next_a, err_a, v0, v1, kD_ok, kD_err, vw_nil, th_nil, frz_nil, unS_fz, unS_no, unS_ow, List.map_cons, List.map_nil, List.set_cons_zero, List.set_cons_succ, startD, List.replicate, List.cons_append, List.nil_append, List.length_cons, List.length_nil, Nat.reduceAdd, Nat.reduceSub, dAdd_i, dSub_i, dOrd_i, bMin2_i, bMax2_i, tx0, tx1, tx2, tx3, lx0, lx1, comp_a, comp_k, comp_nil, comp_cons, comp_k1, comp_t, comp_f, comp_k3, comp_tt, pure_ok, wipe_nil, wipe_cons, en_a, en_k, enF_nil, enF_cons, zp_a, zp_l, zp_t, zpF_cons, zpF_nil, rg1_a, rg2_a, len_t, len_l, tuple_l, isi_ii, isi_bi, isi_tt, isi_ll, isi_ss, sl1, Bool.not_true, Bool.not_false, app_b, app_l, tix_a, tix_l, reto_a, reto_l, List.getElem?_cons_zero, List.getElem?_cons_succ, paro_a, paro_k, neg_i, rev_l, cut_l, told_a, told_ok, told_err, zp_m, compx_a, compx_k, tx_a, tx_k, hk, en, c1, h5, hp, hn]
theorem s_ff (v m q w : Int) (z : D) (k1 : List D) (h5 : dMod (.int v) (.int 5) = .ok (.int m)) (hp : pGt m 0 = false) (c1 : compL [some (.int v), none, none, none] (.pr (.nm 2) (.nm 3)) t__law_some_1 (eVar 3) (enF 0 kindsD) = .ok k1) (hn : dNe (.list k1) (.list []) = .ok (.bool false))
    (hq : dFdiv (.int v) (.int 8) = .ok (.int q)) (hw : dMod (.int q) (.int 9) = .ok (.int w)) (hx : dIx (.list kindsD) (.int w) = .ok z) : F__law_some [.int v] = .ok (.list [z]) := by
  have en : enK [.list kindsD] = .ok (enF 0 kindsD) := en_k kindsD
  have hk : F__law_kinds [] = .ok (.list kindsD) := kinds_ok
  generalize kindsD = kk at c1 en hk hx
  simp only [F__law_some, b__law_some, seq_a, seq_nx, seq_rt, seq_ct, seq_bk, seq_err, if_a, if_t, if_f, asg_a, asg_k, own_a, own_k, lc_a, lc_k, ex_a, ex_k, rt_a, rt_k, op_a, op_k, op_k2, un_a, cons_a, cons_k, cons_k2, nil_a, c_a, tup_a, tup_k, lst_a, lst_k, bl_a, bl_k, eif_a, eif_t, eif_f, nt_a, nt_k, an_a, an_t, an_f, or_a, or_t, or_f, van_a, van_t, van_f, vor_a, vor_t, vor_f, vnt_a, vnt_k, ch_a, ch_ka, ch_kb, ch_t, ch_f, ch_k2, par_a, par_k, tg_a, tg_k, nx_k, b_nm, b_pr, b_tr, tr_k, e_nm, e_pr, for_a, for_k, call_a, any_a, items_l, items_t, idx_a, idx_k, idx_k2, no_a, some_a, some_k, sl_a, sl_k, sl_k1, sl_k2, get_a, get_k, get_k1, get_k2, run_a, run_rt, run_ro, run_nx, runo_a, runo_k, next_a, err_a, v0, v1, kD_ok, kD_err, vw_nil, th_nil, frz_nil, unS_fz, unS_no, unS_ow, List.map_cons, List.map_nil, List.set_cons_zero, List.set_cons_succ, startD, List.replicate, List.cons_append, List.nil_append, List.length_cons, List.length_nil, Nat.reduceAdd, Nat.reduceSub, dAdd_i, dSub_i, dOrd_i, bMin2_i, bMax2_i, tx0, tx1, tx2, tx3, lx0, lx1, comp_a, comp_k, comp_nil, comp_cons, comp_k1, comp_t, comp_f, comp_k3, comp_tt, pure_ok, wipe_nil, wipe_cons, en_a, en_k, enF_nil, enF_cons, zp_a, zp_l, zp_t, zpF_cons, zpF_nil, rg1_a, rg2_a, len_t, len_l, tuple_l, isi_ii, isi_bi, isi_tt, isi_ll, isi_ss, sl1, Bool.not_true, Bool.not_false, app_b, app_l, tix_a, tix_l, reto_a, reto_l, List.getElem?_cons_zero, List.getElem?_cons_succ, paro_a, paro_k, neg_i, rev_l, cut_l, told_a, told_ok, told_err, zp_m, compx_a, compx_k, tx_a, tx_k, hk, en, c1, h5, hp, hn, hq, hw, hx]
theorem pickk (w : Int) (h : 0 ≤ w ∧ w < 9) : ∃ k, dIx (.list kindsD) (.int w) = .ok (.str k) ∧ k ∈ kindsL := by
  have h9 : w = 0 ∨ w = 1 ∨ w = 2 ∨ w = 3 ∨ w = 4 ∨ w = 5 ∨ w = 6 ∨ w = 7 ∨ w = 8 := by omega
  rcases h9 with rfl | rfl | rfl | rfl | rfl | rfl | rfl | rfl | rfl
  · exact ⟨"flat", by kernel_rfl, by simp [kindsL]⟩
  · exact ⟨"each", by kernel_rfl, by simp [kindsL]⟩
  · exact ⟨"base", by kernel_rfl, by simp [kindsL]⟩
  · exact ⟨"from", by kernel_rfl, by simp [kindsL]⟩
  · exact ⟨"packs", by kernel_rfl, by simp [kindsL]⟩
  · exact ⟨"gift", by kernel_rfl, by simp [kindsL]⟩
  · exact ⟨"least", by kernel_rfl, by simp [kindsL]⟩
  · exact ⟨"most", by kernel_rfl, by simp [kindsL]⟩
  · exact ⟨"off", by kernel_rfl, by simp [kindsL]⟩
theorem neE {l : List D} (h : SeqAt.shaped (.list l) = true) : dNe (.list l) (.list []) = .ok (.bool (!l.isEmpty)) := by
  unfold dNe
  rw [if_pos ⟨h, by kernel_rfl⟩]
  cases l <;> simp [PyData.eqv, PyData.eqvAll]
theorem sub_ne {ks : List Str} (h : ks.Sublist kindsL) : dNe (.list (ks.map PyData.str)) (.list []) = .ok (.bool (!ks.isEmpty)) := by
  have e := neE (shp_flatL _ (okFl_kinds ks fun k hk => h.subset hk))
  rw [e]
  cases ks <;> rfl
theorem some_ok (v : Int) : ∃ ks, KL ks ∧ F__law_some [.int v] = .ok (.list (ks.map PyData.str)) := by
  obtain ⟨k1, s1, c1⟩ := comp1 v kindsL 0
  have c1' : compL [some (.int v), none, none, none] (.pr (.nm 2) (.nm 3)) t__law_some_1 (eVar 3) (enF 0 kindsD) = .ok (k1.map PyData.str) := c1
  obtain ⟨k2, s2, c2⟩ := comp2 (some (.int v)) (some (.list (k1.map PyData.str))) none k1
  have h5 : dMod (.int v) (.int 5) = .ok (.int (v % 5)) := dMod_i (by decide)
  have hq : dFdiv (.int v) (.int 8) = .ok (.int (v / 8)) := dFdiv_i ⟨by decide, nat200 (by decide)⟩
  have hw : dMod (.int (v / 8)) (.int 9) = .ok (.int (v / 8 % 9)) := dMod_i (by decide)
  obtain ⟨k, hx, hk⟩ := pickk (v / 8 % 9) ⟨Int.emod_nonneg _ (by decide), Int.emod_lt_of_pos _ (by decide)⟩
  have one : KL [k] := KL.of_sub (List.singleton_sublist.mpr hk) (by simp)
  cases hp : pGt (v % 5) 0 with
  | true =>
    have hn := sub_ne (s2.trans s1)
    by_cases he : k2 = []
    · subst he
      exact ⟨[k], one, s_tf v _ _ _ _ _ _ h5 hp c1' c2 hn hq hw hx⟩
    · have e : (!k2.isEmpty) = true := by simpa using he
      rw [e] at hn
      refine ⟨k2.reverse, (KL.of_sub (s2.trans s1) he).rev, ?_⟩
      rw [List.map_reverse]
      exact s_tt v _ _ _ h5 hp c1' c2 hn
  | false =>
    have hn := sub_ne s1
    by_cases he : k1 = []
    · subst he
      exact ⟨[k], one, s_ff v _ _ _ _ _ h5 hp c1' hn hq hw hx⟩
    · have e : (!k1.isEmpty) = true := by simpa using he
      rw [e] at hn
      refine ⟨k1.reverse, (KL.of_sub s1 he).rev, ?_⟩
      rw [List.map_reverse]
      exact s_ft v _ _ h5 hp c1' hn
end DL.K30
set_option Elab.async false
set_option linter.all false
set_option maxRecDepth 100000
set_option maxHeartbeats 4000000
/-! P30a: bills, what fits, all rules of kinds. -/
namespace DL.K30
open PySem PySem.Spec PyProof.Rows L2 RZ DL
abbrev Bl := Nat × Int
def bD (b : Bl) : D := .tuple [.int b.1, .int b.2]
def Bl.ok (b : Bl) : Prop := b.1 ≤ 20 ∧ 0 ≤ b.2 ∧ b.2 ≤ 999
def fits (r : Rl) (bs : List Bl) : Bool := bs.all fun b => r.pr b.1 == b.2
theorem eqE {l : List D} (h : SeqAt.shaped (.list l) = true) : dEq (.list l) (.list []) = .ok (.bool l.isEmpty) := by
  unfold dEq
  rw [if_pos ⟨h, by kernel_rfl⟩]
  cases l <;> simp [PyData.eqv, PyData.eqvAll]
theorem fit_el (rd bl : D) (m c p : Int) (h : F_price [rd, .int m] = .ok (.int p)) : e_is_fit_1 [some rd, some bl, some (.int m), some (.int c)] = .ok (.bool (p == c)) := by
  simp only [e_is_fit_1, seq_a, seq_nx, seq_rt, seq_ct, seq_bk, seq_err, if_a, if_t, if_f, asg_a, asg_k, own_a, own_k, lc_a, lc_k, ex_a, ex_k, rt_a, rt_k, op_a, op_k, op_k2, un_a, cons_a, cons_k, cons_k2, nil_a, c_a, tup_a, tup_k, lst_a, lst_k, bl_a, bl_k, eif_a, eif_t, eif_f, nt_a, nt_k, an_a, an_t, an_f, or_a, or_t, or_f, van_a, van_t, van_f, vor_a, vor_t, vor_f, vnt_a, vnt_k, ch_a, ch_ka, ch_kb, ch_t, ch_f, ch_k2, par_a, par_k, tg_a, tg_k, nx_k, b_nm, b_pr, b_tr, tr_k, e_nm, e_pr, for_a, for_k, call_a, any_a, items_l, items_t, idx_a, idx_k, idx_k2, no_a, some_a, some_k, sl_a, sl_k, sl_k1, sl_k2, get_a, get_k, get_k1, get_k2, run_a, run_rt, run_ro, run_nx, runo_a, runo_k, next_a, err_a, v0, v1, kD_ok, kD_err, vw_nil, th_nil, frz_nil, unS_fz, unS_no, unS_ow, List.map_cons, List.map_nil, List.set_cons_zero, List.set_cons_succ, startD, List.replicate, List.cons_append, List.nil_append, List.length_cons, List.length_nil, Nat.reduceAdd, Nat.reduceSub, dAdd_i, dSub_i, dOrd_i, bMin2_i, bMax2_i, tx0, tx1, tx2, tx3, lx0, lx1, comp_a, comp_k, comp_nil, comp_cons, comp_k1, comp_t, comp_f, comp_k3, comp_tt, pure_ok, wipe_nil, wipe_cons, en_a, en_k, enF_nil, enF_cons, zp_a, zp_l, zp_t, zpF_cons, zpF_nil, rg1_a, rg2_a, len_t, len_l, tuple_l, isi_ii, isi_bi, isi_tt, isi_ll, isi_ss, sl1, Bool.not_true, Bool.not_false, app_b, app_l, tix_a, tix_l, reto_a, reto_l, List.getElem?_cons_zero, List.getElem?_cons_succ, paro_a, paro_k, neg_i, rev_l, cut_l, told_a, told_ok, told_err, zp_m, compx_a, compx_k, tx_a, tx_k, h, eqI]
theorem fit_ev (rd : D) (bl out : List D) (b : Bool) (h1 : compL [some rd, some (.list bl), none, none] (.pr (.nm 2) (.nm 3)) tTrue e_is_fit_1 bl = .ok out) (h2 : bAll [.list out] = .ok (.bool b)) : F_is_fit [rd, .list bl] = .ok (.bool b) := by
  simp only [F_is_fit, b_is_fit, seq_a, seq_nx, seq_rt, seq_ct, seq_bk, seq_err, if_a, if_t, if_f, asg_a, asg_k, own_a, own_k, lc_a, lc_k, ex_a, ex_k, rt_a, rt_k, op_a, op_k, op_k2, un_a, cons_a, cons_k, cons_k2, nil_a, c_a, tup_a, tup_k, lst_a, lst_k, bl_a, bl_k, eif_a, eif_t, eif_f, nt_a, nt_k, an_a, an_t, an_f, or_a, or_t, or_f, van_a, van_t, van_f, vor_a, vor_t, vor_f, vnt_a, vnt_k, ch_a, ch_ka, ch_kb, ch_t, ch_f, ch_k2, par_a, par_k, tg_a, tg_k, nx_k, b_nm, b_pr, b_tr, tr_k, e_nm, e_pr, for_a, for_k, call_a, any_a, items_l, items_t, idx_a, idx_k, idx_k2, no_a, some_a, some_k, sl_a, sl_k, sl_k1, sl_k2, get_a, get_k, get_k1, get_k2, run_a, run_rt, run_ro, run_nx, runo_a, runo_k, next_a, err_a, v0, v1, kD_ok, kD_err, vw_nil, th_nil, frz_nil, unS_fz, unS_no, unS_ow, List.map_cons, List.map_nil, List.set_cons_zero, List.set_cons_succ, startD, List.replicate, List.cons_append, List.nil_append, List.length_cons, List.length_nil, Nat.reduceAdd, Nat.reduceSub, dAdd_i, dSub_i, dOrd_i, bMin2_i, bMax2_i, tx0, tx1, tx2, tx3, lx0, lx1, comp_a, comp_k, comp_nil, comp_cons, comp_k1, comp_t, comp_f, comp_k3, comp_tt, pure_ok, wipe_nil, wipe_cons, en_a, en_k, enF_nil, enF_cons, zp_a, zp_l, zp_t, zpF_cons, zpF_nil, rg1_a, rg2_a, len_t, len_l, tuple_l, isi_ii, isi_bi, isi_tt, isi_ll, isi_ss, sl1, Bool.not_true, Bool.not_false, app_b, app_l, tix_a, tix_l, reto_a, reto_l, List.getElem?_cons_zero, List.getElem?_cons_succ, paro_a, paro_k, neg_i, rev_l, cut_l, told_a, told_ok, told_err, zp_m, compx_a, compx_k, tx_a, tx_k, h1, h2]
theorem is_fit_ok (r : Rl) (h : r.ok) (bs : List Bl) : F_is_fit [r.D, .list (bs.map bD)] = .ok (.bool (fits r bs)) := by
  have gen : ∀ (s1 : Option D) (l : List Bl), compL [some r.D, s1, none, none] (.pr (.nm 2) (.nm 3)) tTrue e_is_fit_1 (l.map bD) = .ok ((l.map fun b => r.pr b.1 == b.2).map PyData.bool) := by
    intro s1 l
    induction l with
    | nil => rfl
    | cons b l ih =>
      rw [List.map_cons, comp_cons]
      show cK1 _ _ _ _ _ [some r.D, s1, some (.int (b.1 : Nat)), some (.int b.2)] = _
      have e : e_is_fit_1 [some r.D, s1, some (.int (b.1 : Nat)), some (.int b.2)] = .ok (.bool (r.pr b.1 == b.2)) := by
        have := price_ok r h b.1
        simp only [e_is_fit_1, seq_a, seq_nx, seq_rt, seq_ct, seq_bk, seq_err, if_a, if_t, if_f, asg_a, asg_k, own_a, own_k, lc_a, lc_k, ex_a, ex_k, rt_a, rt_k, op_a, op_k, op_k2, un_a, cons_a, cons_k, cons_k2, nil_a, c_a, tup_a, tup_k, lst_a, lst_k, bl_a, bl_k, eif_a, eif_t, eif_f, nt_a, nt_k, an_a, an_t, an_f, or_a, or_t, or_f, van_a, van_t, van_f, vor_a, vor_t, vor_f, vnt_a, vnt_k, ch_a, ch_ka, ch_kb, ch_t, ch_f, ch_k2, par_a, par_k, tg_a, tg_k, nx_k, b_nm, b_pr, b_tr, tr_k, e_nm, e_pr, for_a, for_k, call_a, any_a, items_l, items_t, idx_a, idx_k, idx_k2, no_a, some_a, some_k, sl_a, sl_k, sl_k1, sl_k2, get_a, get_k, get_k1, get_k2, run_a, run_rt, run_ro, run_nx, runo_a, runo_k, next_a, err_a, v0, v1, kD_ok, kD_err, vw_nil, th_nil, frz_nil, unS_fz, unS_no, unS_ow, List.map_cons, List.map_nil, List.set_cons_zero, List.set_cons_succ, startD, List.replicate, List.cons_append, List.nil_append, List.length_cons, List.length_nil, Nat.reduceAdd, Nat.reduceSub, dAdd_i, dSub_i, dOrd_i, bMin2_i, bMax2_i, tx0, tx1, tx2, tx3, lx0, lx1, comp_a, comp_k, comp_nil, comp_cons, comp_k1, comp_t, comp_f, comp_k3, comp_tt, pure_ok, wipe_nil, wipe_cons, en_a, en_k, enF_nil, enF_cons, zp_a, zp_l, zp_t, zpF_cons, zpF_nil, rg1_a, rg2_a, len_t, len_l, tuple_l, isi_ii, isi_bi, isi_tt, isi_ll, isi_ss, sl1, Bool.not_true, Bool.not_false, app_b, app_l, tix_a, tix_l, reto_a, reto_l, List.getElem?_cons_zero, List.getElem?_cons_succ, paro_a, paro_k, neg_i, rev_l, cut_l, told_a, told_ok, told_err, zp_m, compx_a, compx_k, tx_a, tx_k, this, eqI]
      rw [comp_k1, comp_tt, comp_t, e, kD_ok, comp_k3, ih, kD_ok]
      rfl
  refine fit_ev r.D _ _ _ (gen _ bs) ?_
  rw [all_l, List.all_map]
  rfl
theorem lfit_ev (rd : D) (bl out : List D) (b : Bool) (h1 : compL [some rd, some (.list bl), none, none] (.pr (.nm 2) (.nm 3)) t__law_fits_1 (eC (.int 1)) bl = .ok out) (h2 : dEq (.list out) (.list []) = .ok (.bool b)) : F__law_fits [rd, .list bl] = .ok (.bool b) := by
  simp only [F__law_fits, b__law_fits, seq_a, seq_nx, seq_rt, seq_ct, seq_bk, seq_err, if_a, if_t, if_f, asg_a, asg_k, own_a, own_k, lc_a, lc_k, ex_a, ex_k, rt_a, rt_k, op_a, op_k, op_k2, un_a, cons_a, cons_k, cons_k2, nil_a, c_a, tup_a, tup_k, lst_a, lst_k, bl_a, bl_k, eif_a, eif_t, eif_f, nt_a, nt_k, an_a, an_t, an_f, or_a, or_t, or_f, van_a, van_t, van_f, vor_a, vor_t, vor_f, vnt_a, vnt_k, ch_a, ch_ka, ch_kb, ch_t, ch_f, ch_k2, par_a, par_k, tg_a, tg_k, nx_k, b_nm, b_pr, b_tr, tr_k, e_nm, e_pr, for_a, for_k, call_a, any_a, items_l, items_t, idx_a, idx_k, idx_k2, no_a, some_a, some_k, sl_a, sl_k, sl_k1, sl_k2, get_a, get_k, get_k1, get_k2, run_a, run_rt, run_ro, run_nx, runo_a, runo_k, next_a, err_a, v0, v1, kD_ok, kD_err, vw_nil, th_nil, frz_nil, unS_fz, unS_no, unS_ow, List.map_cons, List.map_nil, List.set_cons_zero, List.set_cons_succ, startD, List.replicate, List.cons_append, List.nil_append, List.length_cons, List.length_nil, Nat.reduceAdd, Nat.reduceSub, dAdd_i, dSub_i, dOrd_i, bMin2_i, bMax2_i, tx0, tx1, tx2, tx3, lx0, lx1, comp_a, comp_k, comp_nil, comp_cons, comp_k1, comp_t, comp_f, comp_k3, comp_tt, pure_ok, wipe_nil, wipe_cons, en_a, en_k, enF_nil, enF_cons, zp_a, zp_l, zp_t, zpF_cons, zpF_nil, rg1_a, rg2_a, len_t, len_l, tuple_l, isi_ii, isi_bi, isi_tt, isi_ll, isi_ss, sl1, Bool.not_true, Bool.not_false, app_b, app_l, tix_a, tix_l, reto_a, reto_l, List.getElem?_cons_zero, List.getElem?_cons_succ, paro_a, paro_k, neg_i, rev_l, cut_l, told_a, told_ok, told_err, zp_m, compx_a, compx_k, tx_a, tx_k, h1, h2]
theorem law_fits_ok (r : Rl) (h : r.ok) (bs : List Bl) (hb : ∀ b ∈ bs, b.ok) : F__law_fits [r.D, .list (bs.map bD)] = .ok (.bool (fits r bs)) := by
  have gen : ∀ (s1 : Option D) (l : List Bl), (∀ b ∈ l, b.ok) → ∃ ns : List Int, compL [some r.D, s1, none, none] (.pr (.nm 2) (.nm 3)) t__law_fits_1 (eC (.int 1)) (l.map bD) = .ok (ns.map PyData.int) ∧ ns.isEmpty = l.all fun b => r.pr b.1 == b.2 := by
    intro s1 l
    induction l with
    | nil => exact fun _ => ⟨[], rfl, rfl⟩
    | cons b l ih =>
      intro hl
      obtain ⟨ns, h1, h2⟩ := ih fun x hx => hl x (by simp [hx])
      have hb1 := (hl b (by simp)).1
      have e : t__law_fits_1 [some r.D, s1, some (.int (b.1 : Nat)), some (.int b.2)] = .ok (!(r.pr b.1 == b.2)) := by
        have := cost_ok r h b.1 hb1
        simp only [t__law_fits_1, seq_a, seq_nx, seq_rt, seq_ct, seq_bk, seq_err, if_a, if_t, if_f, asg_a, asg_k, own_a, own_k, lc_a, lc_k, ex_a, ex_k, rt_a, rt_k, op_a, op_k, op_k2, un_a, cons_a, cons_k, cons_k2, nil_a, c_a, tup_a, tup_k, lst_a, lst_k, bl_a, bl_k, eif_a, eif_t, eif_f, nt_a, nt_k, an_a, an_t, an_f, or_a, or_t, or_f, van_a, van_t, van_f, vor_a, vor_t, vor_f, vnt_a, vnt_k, ch_a, ch_ka, ch_kb, ch_t, ch_f, ch_k2, par_a, par_k, tg_a, tg_k, nx_k, b_nm, b_pr, b_tr, tr_k, e_nm, e_pr, for_a, for_k, call_a, any_a, items_l, items_t, idx_a, idx_k, idx_k2, no_a, some_a, some_k, sl_a, sl_k, sl_k1, sl_k2, get_a, get_k, get_k1, get_k2, run_a, run_rt, run_ro, run_nx, runo_a, runo_k, next_a, err_a, v0, v1, kD_ok, kD_err, vw_nil, th_nil, frz_nil, unS_fz, unS_no, unS_ow, List.map_cons, List.map_nil, List.set_cons_zero, List.set_cons_succ, startD, List.replicate, List.cons_append, List.nil_append, List.length_cons, List.length_nil, Nat.reduceAdd, Nat.reduceSub, dAdd_i, dSub_i, dOrd_i, bMin2_i, bMax2_i, tx0, tx1, tx2, tx3, lx0, lx1, comp_a, comp_k, comp_nil, comp_cons, comp_k1, comp_t, comp_f, comp_k3, comp_tt, pure_ok, wipe_nil, wipe_cons, en_a, en_k, enF_nil, enF_cons, zp_a, zp_l, zp_t, zpF_cons, zpF_nil, rg1_a, rg2_a, len_t, len_l, tuple_l, isi_ii, isi_bi, isi_tt, isi_ll, isi_ss, sl1, Bool.not_true, Bool.not_false, app_b, app_l, tix_a, tix_l, reto_a, reto_l, List.getElem?_cons_zero, List.getElem?_cons_succ, paro_a, paro_k, neg_i, rev_l, cut_l, told_a, told_ok, told_err, zp_m, compx_a, compx_k, tx_a, tx_k, this, neI]
      rw [List.map_cons, comp_cons]
      show ∃ ns : List Int, cK1 _ _ _ _ _ [some r.D, s1, some (.int (b.1 : Nat)), some (.int b.2)] = _ ∧ _
      rw [comp_k1, e]
      cases q : r.pr b.1 == b.2 with
      | true =>
        rw [Bool.not_true, comp_f]
        exact ⟨ns, h1, by rw [h2, List.all_cons, q, Bool.true_and]⟩
      | false =>
        rw [Bool.not_false, comp_t, c_a, kD_ok, comp_k3, h1, kD_ok]
        exact ⟨1 :: ns, rfl, by rw [List.all_cons, q]; rfl⟩
  obtain ⟨ns, h1, h2⟩ := gen (some (.list (bs.map bD))) bs hb
  refine lfit_ev r.D _ _ _ h1 ?_
  rw [eqE (shp_ints ns)]
  congr 2
  unfold fits
  rw [← h2]
  cases ns <;> rfl
/-! bills are bills -/
theorem is_bill_ev (m c : Int) (h1 : F_is_count [.int m, .int 0, .int 20] = .ok (.bool true)) (h2 : F_is_count [.int c, .int 0, .int 999] = .ok (.bool true)) : F_is_bill [.tuple [.int m, .int c]] = .ok (.bool true) := by
  have e1 : c_MOST_MANY = .int 20 := rfl
  have e2 : c_MOST_COST = .int 999 := rfl
  have e3 : dEq (.int ((2 : Nat) : Int)) (.int 2) = .ok (.bool true) := by kernel_rfl
  simp only [F_is_bill, b_is_bill, seq_a, seq_nx, seq_rt, seq_ct, seq_bk, seq_err, if_a, if_t, if_f, asg_a, asg_k, own_a, own_k, lc_a, lc_k, ex_a, ex_k, rt_a, rt_k, op_a, op_k, op_k2, un_a, cons_a, cons_k, cons_k2, nil_a, c_a, tup_a, tup_k, lst_a, lst_k, bl_a, bl_k, eif_a, eif_t, eif_f, nt_a, nt_k, an_a, an_t, an_f, or_a, or_t, or_f, van_a, van_t, van_f, vor_a, vor_t, vor_f, vnt_a, vnt_k, ch_a, ch_ka, ch_kb, ch_t, ch_f, ch_k2, par_a, par_k, tg_a, tg_k, nx_k, b_nm, b_pr, b_tr, tr_k, e_nm, e_pr, for_a, for_k, call_a, any_a, items_l, items_t, idx_a, idx_k, idx_k2, no_a, some_a, some_k, sl_a, sl_k, sl_k1, sl_k2, get_a, get_k, get_k1, get_k2, run_a, run_rt, run_ro, run_nx, runo_a, runo_k, next_a, err_a, v0, v1, kD_ok, kD_err, vw_nil, th_nil, frz_nil, unS_fz, unS_no, unS_ow, List.map_cons, List.map_nil, List.set_cons_zero, List.set_cons_succ, startD, List.replicate, List.cons_append, List.nil_append, List.length_cons, List.length_nil, Nat.reduceAdd, Nat.reduceSub, dAdd_i, dSub_i, dOrd_i, bMin2_i, bMax2_i, tx0, tx1, tx2, tx3, lx0, lx1, comp_a, comp_k, comp_nil, comp_cons, comp_k1, comp_t, comp_f, comp_k3, comp_tt, pure_ok, wipe_nil, wipe_cons, en_a, en_k, enF_nil, enF_cons, zp_a, zp_l, zp_t, zpF_cons, zpF_nil, rg1_a, rg2_a, len_t, len_l, tuple_l, isi_ii, isi_bi, isi_tt, isi_ll, isi_ss, sl1, Bool.not_true, Bool.not_false, app_b, app_l, tix_a, tix_l, reto_a, reto_l, List.getElem?_cons_zero, List.getElem?_cons_succ, paro_a, paro_k, neg_i, rev_l, cut_l, told_a, told_ok, told_err, zp_m, compx_a, compx_k, tx_a, tx_k, e1, e2, e3, h1, h2]
theorem cnt_i {x lo hi : Int} (h1 : lo ≤ x) (h2 : x ≤ hi) : F_is_count [.int x, .int lo, .int hi] = .ok (.bool true) := by
  rw [is_count_i2, decide_eq_true ⟨h1, h2⟩]
theorem is_bill_ok (b : Bl) (h : b.ok) : F_is_bill [bD b] = .ok (.bool true) := is_bill_ev _ _ (cnt_i (by omega) (by have := h.1; omega)) (cnt_i h.2.1 h.2.2)
theorem bills_el (d x : D) (h : F_is_bill [d] = .ok (.bool true)) : e_need_bills_1 [some x, some d] = .ok (.bool true) := by
  simp only [e_need_bills_1, seq_a, seq_nx, seq_rt, seq_ct, seq_bk, seq_err, if_a, if_t, if_f, asg_a, asg_k, own_a, own_k, lc_a, lc_k, ex_a, ex_k, rt_a, rt_k, op_a, op_k, op_k2, un_a, cons_a, cons_k, cons_k2, nil_a, c_a, tup_a, tup_k, lst_a, lst_k, bl_a, bl_k, eif_a, eif_t, eif_f, nt_a, nt_k, an_a, an_t, an_f, or_a, or_t, or_f, van_a, van_t, van_f, vor_a, vor_t, vor_f, vnt_a, vnt_k, ch_a, ch_ka, ch_kb, ch_t, ch_f, ch_k2, par_a, par_k, tg_a, tg_k, nx_k, b_nm, b_pr, b_tr, tr_k, e_nm, e_pr, for_a, for_k, call_a, any_a, items_l, items_t, idx_a, idx_k, idx_k2, no_a, some_a, some_k, sl_a, sl_k, sl_k1, sl_k2, get_a, get_k, get_k1, get_k2, run_a, run_rt, run_ro, run_nx, runo_a, runo_k, next_a, err_a, v0, v1, kD_ok, kD_err, vw_nil, th_nil, frz_nil, unS_fz, unS_no, unS_ow, List.map_cons, List.map_nil, List.set_cons_zero, List.set_cons_succ, startD, List.replicate, List.cons_append, List.nil_append, List.length_cons, List.length_nil, Nat.reduceAdd, Nat.reduceSub, dAdd_i, dSub_i, dOrd_i, bMin2_i, bMax2_i, tx0, tx1, tx2, tx3, lx0, lx1, comp_a, comp_k, comp_nil, comp_cons, comp_k1, comp_t, comp_f, comp_k3, comp_tt, pure_ok, wipe_nil, wipe_cons, en_a, en_k, enF_nil, enF_cons, zp_a, zp_l, zp_t, zpF_cons, zpF_nil, rg1_a, rg2_a, len_t, len_l, tuple_l, isi_ii, isi_bi, isi_tt, isi_ll, isi_ss, sl1, Bool.not_true, Bool.not_false, app_b, app_l, tix_a, tix_l, reto_a, reto_l, List.getElem?_cons_zero, List.getElem?_cons_succ, paro_a, paro_k, neg_i, rev_l, cut_l, told_a, told_ok, told_err, zp_m, compx_a, compx_k, tx_a, tx_k, h]
theorem need_bills_ev (l out : List D) (h0 : pGt (l.length : Nat) 8 = false) (h1 : compL [some (.list l), none] (.nm 1) tTrue e_need_bills_1 l = .ok out) (h2 : bAll [.list out] = .ok (.bool true)) : F_need_bills [.list l] = .ok .none := by
  have e1 : c_MOST_BILLS = .int 8 := rfl
  simp only [F_need_bills, b_need_bills, seq_a, seq_nx, seq_rt, seq_ct, seq_bk, seq_err, if_a, if_t, if_f, asg_a, asg_k, own_a, own_k, lc_a, lc_k, ex_a, ex_k, rt_a, rt_k, op_a, op_k, op_k2, un_a, cons_a, cons_k, cons_k2, nil_a, c_a, tup_a, tup_k, lst_a, lst_k, bl_a, bl_k, eif_a, eif_t, eif_f, nt_a, nt_k, an_a, an_t, an_f, or_a, or_t, or_f, van_a, van_t, van_f, vor_a, vor_t, vor_f, vnt_a, vnt_k, ch_a, ch_ka, ch_kb, ch_t, ch_f, ch_k2, par_a, par_k, tg_a, tg_k, nx_k, b_nm, b_pr, b_tr, tr_k, e_nm, e_pr, for_a, for_k, call_a, any_a, items_l, items_t, idx_a, idx_k, idx_k2, no_a, some_a, some_k, sl_a, sl_k, sl_k1, sl_k2, get_a, get_k, get_k1, get_k2, run_a, run_rt, run_ro, run_nx, runo_a, runo_k, next_a, err_a, v0, v1, kD_ok, kD_err, vw_nil, th_nil, frz_nil, unS_fz, unS_no, unS_ow, List.map_cons, List.map_nil, List.set_cons_zero, List.set_cons_succ, startD, List.replicate, List.cons_append, List.nil_append, List.length_cons, List.length_nil, Nat.reduceAdd, Nat.reduceSub, dAdd_i, dSub_i, dOrd_i, bMin2_i, bMax2_i, tx0, tx1, tx2, tx3, lx0, lx1, comp_a, comp_k, comp_nil, comp_cons, comp_k1, comp_t, comp_f, comp_k3, comp_tt, pure_ok, wipe_nil, wipe_cons, en_a, en_k, enF_nil, enF_cons, zp_a, zp_l, zp_t, zpF_cons, zpF_nil, rg1_a, rg2_a, len_t, len_l, tuple_l, isi_ii, isi_bi, isi_tt, isi_ll, isi_ss, sl1, Bool.not_true, Bool.not_false, app_b, app_l, tix_a, tix_l, reto_a, reto_l, List.getElem?_cons_zero, List.getElem?_cons_succ, paro_a, paro_k, neg_i, rev_l, cut_l, told_a, told_ok, told_err, zp_m, compx_a, compx_k, tx_a, tx_k, e1, h0, h1, h2]
theorem need_bills_ok (bs : List Bl) (h : ∀ b ∈ bs, b.ok) (hl : bs.length ≤ 8) : F_need_bills [.list (bs.map bD)] = .ok .none := by
  have gen : ∀ (x : D) (l : List Bl), (∀ b ∈ l, b.ok) → compL [some x, none] (.nm 1) tTrue e_need_bills_1 (l.map bD) = .ok ((l.map fun _ => true).map PyData.bool) := by
    intro x l
    induction l with
    | nil => exact fun _ => rfl
    | cons b l ih =>
      intro hl
      rw [List.map_cons, comp_cons]
      show cK1 _ _ _ _ _ [some x, some (bD b)] = _
      rw [comp_k1, comp_tt, comp_t, bills_el _ _ (is_bill_ok b (hl b (by simp))), kD_ok, comp_k3, ih (fun y hy => hl y (by simp [hy])), kD_ok]
      rfl
  refine need_bills_ev _ _ (decide_eq_false (by rw [List.length_map]; omega)) (gen _ bs h) ?_
  rw [all_l, List.all_map]
  congr 2
  exact List.all_eq_true.mpr fun _ _ => rfl
/-! all rules of kinds -/
def Rl.okB : Rl → Bool
  | .flat c => decide (c < 10)
  | .each c => decide (c < 10)
  | .base a b => decide (a < 10) && decide (b < 10)
  | .frm c n d => decide (c < 10) && (decide (0 < n) && decide (n < 6)) && decide (d < 10)
  | .packs c n => decide (c < 10) && (decide (0 < n) && decide (n < 6))
  | .gift c n => decide (c < 10) && (decide (0 < n) && decide (n < 6))
  | .least a b => decide (a < 10) && decide (b < 10)
  | .most a b => decide (a < 10) && decide (b < 10)
  | .off c n d => decide (c < 10) && (decide (0 < n) && decide (n < 6)) && decide (d < 10)
theorem okB_ok {r : Rl} (h : r.okB = true) : r.ok := by
  cases r <;> simp only [Rl.okB, Bool.and_eq_true, decide_eq_true_eq] at h <;> simp only [Rl.ok] <;> omega
def wK (k : Str) : Nat := (rlsK k).length
theorem kinds_all : ∀ k ∈ kindsL, (rlsK k).all (fun r => r.okB && r.k == k) = true ∧ (rlsK k).isEmpty = false := by decide +kernel
theorem kinds_sum : (kindsL.map wK).sum = 1420 := by decide +kernel
theorem rlsK_ok {k : Str} (h : k ∈ kindsL) {r : Rl} (hr : r ∈ rlsK k) : r.ok ∧ r.k = k := by
  have := List.all_eq_true.mp (kinds_all k h).1 r hr
  rw [Bool.and_eq_true] at this
  exact ⟨okB_ok this.1, eq_of_beq this.2⟩
theorem sum_erase (w : Str → Nat) {x : Str} : ∀ {m : List Str}, x ∈ m → (m.map w).sum = w x + ((m.erase x).map w).sum
  | y :: m, h => by
    by_cases e : y = x
    · subst e
      simp
    · have h2 : x ∈ m := (List.mem_cons.mp h).resolve_left fun z => e z.symm
      have ih := sum_erase w h2
      rw [List.erase_cons_tail (by simpa using e), List.map_cons, List.sum_cons, List.map_cons, List.sum_cons, ih]
      omega
theorem sum_sub (w : Str → Nat) : ∀ {l m : List Str}, l.Nodup → (∀ x ∈ l, x ∈ m) → (l.map w).sum ≤ (m.map w).sum
  | [], _, _, _ => Nat.zero_le _
  | x :: l, m, h, k => by
    obtain ⟨h1, h2⟩ := List.nodup_cons.mp h
    have := sum_sub w (m := m.erase x) h2 fun y hy => (List.mem_erase_of_ne (fun (z : y = x) => h1 (by rw [← z]; exact hy))).mpr (k y (by simp [hy]))
    rw [sum_erase w (k x (by simp)), List.map_cons, List.sum_cons]
    omega
def allR (ks : List Str) : List Rl := ks.flatMap rlsK
theorem allR_len {ks : List Str} (K : KL ks) : (allR ks).length ≤ 1420 := by
  have e : (allR ks).length = (ks.map wK).sum := List.length_flatMap
  rw [e, ← kinds_sum]
  exact sum_sub wK K.nd K.sub
theorem allR_mem {ks : List Str} (K : KL ks) {r : Rl} (h : r ∈ allR ks) : r.ok ∧ r.k ∈ ks ∧ r ∈ rlsK r.k := by
  obtain ⟨k, hk, hr⟩ := List.mem_flatMap.mp h
  obtain ⟨h1, h2⟩ := rlsK_ok (K.sub k hk) hr
  rw [h2]
  exact ⟨h1, hk, hr⟩
theorem allR_ne {ks : List Str} (K : KL ks) : allR ks ≠ [] := by
  intro e
  obtain ⟨k, ks', rfl⟩ := List.exists_cons_of_ne_nil K.ne
  have h := (kinds_all k (K.sub k (by simp))).2
  unfold allR at e
  rw [List.flatMap_cons] at e
  rw [(List.append_eq_nil_iff.mp e).1] at h
  cases h
def dueR (ks : List Str) (bs : List Bl) : List Rl := (allR ks).filter fun r => fits r bs
theorem due_ok {ks : List Str} (K : KL ks) {bs : List Bl} {r : Rl} (h : r ∈ dueR ks bs) : r.ok := (allR_mem K (List.mem_filter.mp h).1).1
theorem due_len {ks : List Str} (K : KL ks) (bs : List Bl) : (dueR ks bs).length ≤ 1420 := Nat.le_trans (List.length_filter_le _ _) (allR_len K)
/-- a comprehension with a test -/
theorem comp_filter {ρ : DE} {i : Nat} {ft : DE → R Bool} {fe : DE → R D} {α : Type} (q : α → D) (p : α → Bool) : ∀ l : List α, (∀ r ∈ l, ft (ρ.set i (some (q r))) = .ok (p r) ∧ fe (ρ.set i (some (q r))) = .ok (q r)) → compL ρ (.nm i) ft fe (l.map q) = .ok ((l.filter p).map q)
  | [], _ => rfl
  | r :: l, h => by
    obtain ⟨h1, h2⟩ := h r (by simp)
    have ih := comp_filter q p l fun x hx => h x (by simp [hx])
    rw [List.map_cons, comp_cons]
    show cK1 _ _ _ _ _ (ρ.set i (some (q r))) = _
    rw [comp_k1, h1, List.filter_cons]
    cases p r with
    | true =>
      rw [comp_t, h2, kD_ok, comp_k3, ih, kD_ok]
      rfl
    | false =>
      rw [comp_f, ih]
      rfl
theorem comp_map {ρ : DE} {i : Nat} {fe : DE → R D} {α : Type} (q : α → D) (g : α → D) : ∀ l : List α, (∀ r ∈ l, fe (ρ.set i (some (q r))) = .ok (g r)) → compL ρ (.nm i) tTrue fe (l.map q) = .ok (l.map g)
  | [], _ => rfl
  | r :: l, h => by
    have h1 := h r (by simp)
    have ih := comp_map q g l fun x hx => h x (by simp [hx])
    rw [List.map_cons, comp_cons]
    show cK1 _ _ _ _ _ (ρ.set i (some (q r))) = _
    rw [comp_k1, comp_tt, comp_t, h1, kD_ok, comp_k3, ih, kD_ok]
    rfl
theorem fitt_t (k bl rd : D) (b : Bool) (h : F_is_fit [rd, bl] = .ok (.bool b)) : t_fitting_1 [some k, some bl, some rd] = .ok b := by
  simp only [t_fitting_1, seq_a, seq_nx, seq_rt, seq_ct, seq_bk, seq_err, if_a, if_t, if_f, asg_a, asg_k, own_a, own_k, lc_a, lc_k, ex_a, ex_k, rt_a, rt_k, op_a, op_k, op_k2, un_a, cons_a, cons_k, cons_k2, nil_a, c_a, tup_a, tup_k, lst_a, lst_k, bl_a, bl_k, eif_a, eif_t, eif_f, nt_a, nt_k, an_a, an_t, an_f, or_a, or_t, or_f, van_a, van_t, van_f, vor_a, vor_t, vor_f, vnt_a, vnt_k, ch_a, ch_ka, ch_kb, ch_t, ch_f, ch_k2, par_a, par_k, tg_a, tg_k, nx_k, b_nm, b_pr, b_tr, tr_k, e_nm, e_pr, for_a, for_k, call_a, any_a, items_l, items_t, idx_a, idx_k, idx_k2, no_a, some_a, some_k, sl_a, sl_k, sl_k1, sl_k2, get_a, get_k, get_k1, get_k2, run_a, run_rt, run_ro, run_nx, runo_a, runo_k, next_a, err_a, v0, v1, kD_ok, kD_err, vw_nil, th_nil, frz_nil, unS_fz, unS_no, unS_ow, List.map_cons, List.map_nil, List.set_cons_zero, List.set_cons_succ, startD, List.replicate, List.cons_append, List.nil_append, List.length_cons, List.length_nil, Nat.reduceAdd, Nat.reduceSub, dAdd_i, dSub_i, dOrd_i, bMin2_i, bMax2_i, tx0, tx1, tx2, tx3, lx0, lx1, comp_a, comp_k, comp_nil, comp_cons, comp_k1, comp_t, comp_f, comp_k3, comp_tt, pure_ok, wipe_nil, wipe_cons, en_a, en_k, enF_nil, enF_cons, zp_a, zp_l, zp_t, zpF_cons, zpF_nil, rg1_a, rg2_a, len_t, len_l, tuple_l, isi_ii, isi_bi, isi_tt, isi_ll, isi_ss, sl1, Bool.not_true, Bool.not_false, app_b, app_l, tix_a, tix_l, reto_a, reto_l, List.getElem?_cons_zero, List.getElem?_cons_succ, paro_a, paro_k, neg_i, rev_l, cut_l, told_a, told_ok, told_err, zp_m, compx_a, compx_k, tx_a, tx_k, h]
theorem fitting_ev (k : D) (bl : D) (rl out : List D) (h1 : F_all_rules [k] = .ok (.list rl)) (h2 : compL [some k, some bl, none] (.nm 2) t_fitting_1 (eVar 2) rl = .ok out) : F_fitting [k, bl] = .ok (.list out) := by
  simp only [F_fitting, b_fitting, seq_a, seq_nx, seq_rt, seq_ct, seq_bk, seq_err, if_a, if_t, if_f, asg_a, asg_k, own_a, own_k, lc_a, lc_k, ex_a, ex_k, rt_a, rt_k, op_a, op_k, op_k2, un_a, cons_a, cons_k, cons_k2, nil_a, c_a, tup_a, tup_k, lst_a, lst_k, bl_a, bl_k, eif_a, eif_t, eif_f, nt_a, nt_k, an_a, an_t, an_f, or_a, or_t, or_f, van_a, van_t, van_f, vor_a, vor_t, vor_f, vnt_a, vnt_k, ch_a, ch_ka, ch_kb, ch_t, ch_f, ch_k2, par_a, par_k, tg_a, tg_k, nx_k, b_nm, b_pr, b_tr, tr_k, e_nm, e_pr, for_a, for_k, call_a, any_a, items_l, items_t, idx_a, idx_k, idx_k2, no_a, some_a, some_k, sl_a, sl_k, sl_k1, sl_k2, get_a, get_k, get_k1, get_k2, run_a, run_rt, run_ro, run_nx, runo_a, runo_k, next_a, err_a, v0, v1, kD_ok, kD_err, vw_nil, th_nil, frz_nil, unS_fz, unS_no, unS_ow, List.map_cons, List.map_nil, List.set_cons_zero, List.set_cons_succ, startD, List.replicate, List.cons_append, List.nil_append, List.length_cons, List.length_nil, Nat.reduceAdd, Nat.reduceSub, dAdd_i, dSub_i, dOrd_i, bMin2_i, bMax2_i, tx0, tx1, tx2, tx3, lx0, lx1, comp_a, comp_k, comp_nil, comp_cons, comp_k1, comp_t, comp_f, comp_k3, comp_tt, pure_ok, wipe_nil, wipe_cons, en_a, en_k, enF_nil, enF_cons, zp_a, zp_l, zp_t, zpF_cons, zpF_nil, rg1_a, rg2_a, len_t, len_l, tuple_l, isi_ii, isi_bi, isi_tt, isi_ll, isi_ss, sl1, Bool.not_true, Bool.not_false, app_b, app_l, tix_a, tix_l, reto_a, reto_l, List.getElem?_cons_zero, List.getElem?_cons_succ, paro_a, paro_k, neg_i, rev_l, cut_l, told_a, told_ok, told_err, zp_m, compx_a, compx_k, tx_a, tx_k, h1, h2]
theorem fitting_ok {ks : List Str} (K : KL ks) (bs : List Bl) : F_fitting [.list (ks.map PyData.str), .list (bs.map bD)] = .ok (.list ((dueR ks bs).map Rl.D)) := by
  refine fitting_ev _ _ _ _ (all_ok ks K.sub (by have := K.len; omega)) ?_
  rw [allD_map]
  exact comp_filter Rl.D (fun r => fits r bs) (allR ks) fun r hr => ⟨fitt_t _ _ _ _ (is_fit_ok r (allR_mem K hr).1 bs), rfl⟩
end DL.K30
set_option Elab.async false
set_option linter.all false
set_option maxRecDepth 100000
set_option maxHeartbeats 4000000
/-! P30b: the law's bills; what the program tells of rules that fit. -/
namespace DL.K30
open PySem PySem.Spec PyProof.Rows L2 RZ DL
theorem bills1 (kd rl rd : D) (fs : List D) (mo j v m c q a b q2 e f : Int) (x6 x7 x8 : Sl) (h1 : F__law_drawn [.int mo, .int j] = .ok (.int v)) (h2 : dMod (.int v) (.int 21) = .ok (.int m)) (h3 : F__law_cost [rd, .int m] = .ok (.int c)) (h4 : dFdiv (.int mo) (.int 64) = .ok (.int q)) (h5 : dMod (.int q) (.int 3) = .ok (.int a))
    (h6 : dIx (.list [.int 3, .int 4, .int 6]) (.int a) = .ok (.int b)) (h7 : dFdiv (.int v) (.int 64) = .ok (.int q2)) (h8 : dMod (.int q2) (.int b) = .ok (.int e)) (h9 : dIx (.list [.int 0, .int 0, .int 0, .int 1, .int 7, .int 300]) (.int e) = .ok (.int f)) (hl : fs.length < 100000) :
    L__law_bills_1 [.fz (.int mo), .fz kd, .fz rl, .fz rd, .ow fs, .fz (.int j), x6, x7, x8] = .ok (.nx [.fz (.int mo), .fz kd, .fz rl, .fz rd, .ow (fs ++ [.tuple [.int m, .int (c + f)]]), .fz (.int j), .fz (.int v), .fz (.int m), .fz (.int (c + f))]) := by
  simp only [L__law_bills_1, seq_a, seq_nx, seq_rt, seq_ct, seq_bk, seq_err, if_a, if_t, if_f, asg_a, asg_k, own_a, own_k, lc_a, lc_k, ex_a, ex_k, rt_a, rt_k, op_a, op_k, op_k2, un_a, cons_a, cons_k, cons_k2, nil_a, c_a, tup_a, tup_k, lst_a, lst_k, bl_a, bl_k, eif_a, eif_t, eif_f, nt_a, nt_k, an_a, an_t, an_f, or_a, or_t, or_f, van_a, van_t, van_f, vor_a, vor_t, vor_f, vnt_a, vnt_k, ch_a, ch_ka, ch_kb, ch_t, ch_f, ch_k2, par_a, par_k, tg_a, tg_k, nx_k, b_nm, b_pr, b_tr, tr_k, e_nm, e_pr, for_a, for_k, call_a, any_a, items_l, items_t, idx_a, idx_k, idx_k2, no_a, some_a, some_k, sl_a, sl_k, sl_k1, sl_k2, get_a, get_k, get_k1, get_k2, run_a, run_rt, run_ro, run_nx, runo_a, runo_k, next_a, err_a, v0, v1, kD_ok, kD_err, vw_nil, th_nil, frz_nil, unS_fz, unS_no, unS_ow, List.map_cons, List.map_nil, List.set_cons_zero, List.set_cons_succ, startD, List.replicate, List.cons_append, List.nil_append, List.length_cons, List.length_nil, Nat.reduceAdd, Nat.reduceSub, dAdd_i, dSub_i, dOrd_i, bMin2_i, bMax2_i, tx0, tx1, tx2, tx3, lx0, lx1, comp_a, comp_k, comp_nil, comp_cons, comp_k1, comp_t, comp_f, comp_k3, comp_tt, pure_ok, wipe_nil, wipe_cons, en_a, en_k, enF_nil, enF_cons, zp_a, zp_l, zp_t, zpF_cons, zpF_nil, rg1_a, rg2_a, len_t, len_l, tuple_l, isi_ii, isi_bi, isi_tt, isi_ll, isi_ss, sl1, Bool.not_true, Bool.not_false, app_b, app_l, tix_a, tix_l, reto_a, reto_l, List.getElem?_cons_zero, List.getElem?_cons_succ, paro_a, paro_k, neg_i, rev_l, cut_l, told_a, told_ok, told_err, zp_m, compx_a, compx_k, tx_a, tx_k, h1, h2, h3, h4, h5, h6, h7, h8, h9, app_k hl]
theorem ixN3 (a : Int) (h : 0 ≤ a ∧ a < 3) : ∃ b : Int, dIx (.list [.int 3, .int 4, .int 6]) (.int a) = .ok (.int b) ∧ 0 < b ∧ b ≤ 6 := by
  have h3 : a = 0 ∨ a = 1 ∨ a = 2 := by omega
  rcases h3 with rfl | rfl | rfl
  · exact ⟨3, by kernel_rfl, by decide, by decide⟩
  · exact ⟨4, by kernel_rfl, by decide, by decide⟩
  · exact ⟨6, by kernel_rfl, by decide, by decide⟩
theorem ixN6 (a : Int) (h : 0 ≤ a ∧ a < 6) : ∃ b : Int, dIx (.list [.int 0, .int 0, .int 0, .int 1, .int 7, .int 300]) (.int a) = .ok (.int b) ∧ 0 ≤ b ∧ b ≤ 300 := by
  have h3 : a = 0 ∨ a = 1 ∨ a = 2 ∨ a = 3 ∨ a = 4 ∨ a = 5 := by omega
  rcases h3 with rfl | rfl | rfl | rfl | rfl | rfl
  · exact ⟨0, by kernel_rfl, by decide, by decide⟩
  · exact ⟨0, by kernel_rfl, by decide, by decide⟩
  · exact ⟨0, by kernel_rfl, by decide, by decide⟩
  · exact ⟨1, by kernel_rfl, by decide, by decide⟩
  · exact ⟨7, by kernel_rfl, by decide, by decide⟩
  · exact ⟨300, by kernel_rfl, by decide, by decide⟩
theorem ixN2 (a : Int) (h : 0 ≤ a ∧ a < 2) : ∃ b : Int, dIx (.list [.int 4, .int 9]) (.int a) = .ok (.int b) ∧ 0 < b ∧ b ≤ 9 := by
  have h3 : a = 0 ∨ a = 1 := by omega
  rcases h3 with rfl | rfl
  · exact ⟨4, by kernel_rfl, by decide, by decide⟩
  · exact ⟨9, by kernel_rfl, by decide, by decide⟩
theorem fdvN (x n : Int) (h : 0 < n ∧ n < 100000) : dFdiv (.int x) (.int n) = .ok (.int (x / n)) := dFdiv_i ⟨h.1, nat200 ⟨by omega, by omega⟩⟩
theorem bills_ev (kd rd : D) (rl items : List D) (fs : List D) (mo u w q a b n : Int) (x5 x6 x7 x8 : Sl) (h1 : F__law_rules [kd] = .ok (.list rl)) (h2 : F__law_drawn [.int mo, .int 50] = .ok (.int u)) (h3 : dMod (.int u) (.int (rl.length : Nat)) = .ok (.int w)) (h4 : dIx (.list rl) (.int w) = .ok rd)
    (h5 : dFdiv (.int mo) (.int 16) = .ok (.int q)) (h6 : dMod (.int q) (.int 2) = .ok (.int a)) (h7 : dIx (.list [.int 4, .int 9]) (.int a) = .ok (.int b)) (h8 : dMod (.int mo) (.int b) = .ok (.int n)) (h9 : rg1K [.int n] = .ok items)
    (h10 : forL (.nm 5) L__law_bills_1 items [.fz (.int mo), .fz kd, .fz (.list rl), .fz rd, .ow [], .no, .no, .no, .no] = .ok (.nx [.fz (.int mo), .fz kd, .fz (.list rl), .fz rd, .ow fs, x5, x6, x7, x8])) : F__law_bills [.int mo, kd] = .ok (.list fs) := by
  have v4 : eVar 4 (vw [4] [.fz (.int mo), .fz kd, .fz (.list rl), .fz rd, .ow fs, x5, x6, x7, x8]) = .ok (.list fs) := eVar_ow rfl (by decide)
  simp only [F__law_bills, b__law_bills, seq_a, seq_nx, seq_rt, seq_ct, seq_bk, seq_err, if_a, if_t, if_f, asg_a, asg_k, own_a, own_k, lc_a, lc_k, ex_a, ex_k, rt_a, rt_k, op_a, op_k, op_k2, un_a, cons_a, cons_k, cons_k2, nil_a, c_a, tup_a, tup_k, lst_a, lst_k, bl_a, bl_k, eif_a, eif_t, eif_f, nt_a, nt_k, an_a, an_t, an_f, or_a, or_t, or_f, van_a, van_t, van_f, vor_a, vor_t, vor_f, vnt_a, vnt_k, ch_a, ch_ka, ch_kb, ch_t, ch_f, ch_k2, par_a, par_k, tg_a, tg_k, nx_k, b_nm, b_pr, b_tr, tr_k, e_nm, e_pr, for_a, for_k, call_a, any_a, items_l, items_t, idx_a, idx_k, idx_k2, no_a, some_a, some_k, sl_a, sl_k, sl_k1, sl_k2, get_a, get_k, get_k1, get_k2, run_a, run_rt, run_ro, run_nx, runo_a, runo_k, next_a, err_a, v0, v1, kD_ok, kD_err, vw_nil, th_nil, frz_nil, unS_fz, unS_no, unS_ow, List.map_cons, List.map_nil, List.set_cons_zero, List.set_cons_succ, startD, List.replicate, List.cons_append, List.nil_append, List.length_cons, List.length_nil, Nat.reduceAdd, Nat.reduceSub, dAdd_i, dSub_i, dOrd_i, bMin2_i, bMax2_i, tx0, tx1, tx2, tx3, lx0, lx1, comp_a, comp_k, comp_nil, comp_cons, comp_k1, comp_t, comp_f, comp_k3, comp_tt, pure_ok, wipe_nil, wipe_cons, en_a, en_k, enF_nil, enF_cons, zp_a, zp_l, zp_t, zpF_cons, zpF_nil, rg1_a, rg2_a, len_t, len_l, tuple_l, isi_ii, isi_bi, isi_tt, isi_ll, isi_ss, sl1, Bool.not_true, Bool.not_false, app_b, app_l, tix_a, tix_l, reto_a, reto_l, List.getElem?_cons_zero, List.getElem?_cons_succ, paro_a, paro_k, neg_i, rev_l, cut_l, told_a, told_ok, told_err, zp_m, compx_a, compx_k, tx_a, tx_k, h1, h2, h3, h4, h5, h6, h7, h8, h9, h10, v4]
theorem law_bills_ok (kd : D) (rs : List Rl) (hr : ∀ r ∈ rs, r.ok) (hne : rs ≠ []) (hlen : rs.length < 1000000) (hk : F__law_rules [kd] = .ok (.list (rs.map Rl.D))) (mo : Int) : ∃ bs : List Bl, F__law_bills [.int mo, kd] = .ok (.list (bs.map bD)) ∧ bs.length ≤ 8 ∧ ∀ b ∈ bs, b.ok := by
  obtain ⟨u, _, h2⟩ := drawn_ok mo 50
  have hp : 0 < rs.length := List.length_pos_iff.mpr hne
  have h3 : dMod (.int u) (.int ((rs.map Rl.D).length : Nat)) = .ok (.int (u % (rs.length : Nat))) := by
    rw [List.length_map]
    exact dMod_i (by omega)
  obtain ⟨w, hw⟩ : ∃ w : Nat, u % (rs.length : Nat) = (w : Int) := ⟨(u % (rs.length : Nat)).toNat, by have := Int.emod_nonneg u (show ((rs.length : Nat) : Int) ≠ 0 by omega); omega⟩
  have hw2 : w < rs.length := by
    have := Int.emod_lt_of_pos u (show (0 : Int) < (rs.length : Nat) by omega)
    omega
  rw [hw] at h3
  have hrw : rs[w]? = some rs[w] := List.getElem?_eq_getElem hw2
  have h4 : dIx (.list (rs.map Rl.D)) (.int (w : Int)) = .ok (rs[w]).D := dIx_l (atN (by rw [List.getElem?_map, hrw]; rfl))
  have hrk : (rs[w]).ok := hr _ (List.getElem_mem hw2)
  obtain ⟨b, h7, hb1, hb2⟩ := ixN2 (mo / 16 % 2) (by omega)
  obtain ⟨n, hn⟩ : ∃ n : Nat, mo % b = (n : Int) := ⟨(mo % b).toNat, by have := Int.emod_nonneg mo (show b ≠ 0 by omega); omega⟩
  have hn2 : n ≤ 8 := by
    have := Int.emod_lt_of_pos mo hb1
    omega
  obtain ⟨ρ', k1, bs, x5, x6, x7, x8, rfl, k3, k4⟩ := forL_inv (p := .nm 5) (body := L__law_bills_1) (fun i ρ => ∃ (bs : List Bl) (x5 x6 x7 x8 : Sl), ρ = [.fz (.int mo), .fz kd, .fz (.list (rs.map Rl.D)), .fz (rs[w]).D, .ow (bs.map bD), x5, x6, x7, x8] ∧ bs.length = i ∧ ∀ b ∈ bs, b.ok) (rgD 0 n) 0 [.fz (.int mo), .fz kd, .fz (.list (rs.map Rl.D)), .fz (rs[w]).D, .ow [], .no, .no, .no, .no] ⟨[], _, _, _, _, rfl, rfl, fun _ h => nomatch h⟩ (by
    rintro i d ρ hd ⟨bs, x5, x6, x7, x8, rfl, hbl, hbo⟩
    obtain ⟨hi, rfl⟩ := rg_at hd
    obtain ⟨v, hv0, e1⟩ := drawn_ok mo (0 + (i : Int))
    have e2 : dMod (.int v) (.int 21) = .ok (.int (v % 21)) := dMod_i (by decide)
    obtain ⟨m, hm⟩ : ∃ m : Nat, v % 21 = (m : Int) := ⟨(v % 21).toNat, by omega⟩
    have hm2 : m ≤ 20 := by omega
    rw [hm] at e2
    have e3 := cost_ok (rs[w]) hrk m hm2
    have e4 := fdvN mo 64 (by decide)
    have e5 : dMod (.int (mo / 64)) (.int 3) = .ok (.int (mo / 64 % 3)) := dMod_i (by decide)
    obtain ⟨c, e6, hc1, hc2⟩ := ixN3 (mo / 64 % 3) (by omega)
    have e7 := fdvN v 64 (by decide)
    have e8 : dMod (.int (v / 64)) (.int c) = .ok (.int (v / 64 % c)) := dMod_i hc1
    have g1 := Int.emod_nonneg (v / 64) (show c ≠ 0 by omega)
    have g2 := Int.emod_lt_of_pos (v / 64) hc1
    obtain ⟨f, e9, hf1, hf2⟩ := ixN6 (v / 64 % c) ⟨g1, by omega⟩
    have bd := pr_bd (rs[w]) hrk m hm2
    refine ⟨_, _, rfl, .inl (bills1 kd _ _ _ mo _ v m _ _ _ c _ _ f x6 x7 x8 e1 e2 e3 e4 e5 e6 e7 e8 e9 (by rw [List.length_map]; omega)), bs ++ [(m, (rs[w]).pr m + f)], .fz (.int (0 + (i : Int))), .fz (.int v), .fz (.int (m : Int)), .fz (.int ((rs[w]).pr m + f)), ?_, by simp; omega, fun b hb => ?_⟩
    · rw [List.map_append]
      rfl
    · rcases List.mem_append.mp hb with hb | hb
      · exact hbo b hb
      · rcases List.mem_singleton.mp hb with rfl
        exact ⟨hm2, by show 0 ≤ (rs[w]).pr m + f; omega, by show (rs[w]).pr m + f ≤ 999; omega⟩)
  have hlen : bs.length = n := by
    rw [k3, rgD_len]
    omega
  exact ⟨bs, bills_ev kd _ _ _ _ mo u w _ _ b n x5 x6 x7 x8 hk h2 h3 h4 (fdvN mo 16 (by decide)) (dMod_i (by decide)) h7 (by rw [← hn]; exact dMod_i hb1) (rg1_k (j := (n : Int)) rfl (by omega)) k1, by omega, k4⟩
/-! what is told -/
theorem rules_for_ev (kd bl fit : D) (h1 : F_need_kinds [kd] = .ok .none) (h2 : F_need_bills [bl] = .ok .none) (h3 : F_fitting [kd, bl] = .ok fit) : F_rules_for [kd, bl] = .ok fit := by
  simp only [F_rules_for, b_rules_for, seq_a, seq_nx, seq_rt, seq_ct, seq_bk, seq_err, if_a, if_t, if_f, asg_a, asg_k, own_a, own_k, lc_a, lc_k, ex_a, ex_k, rt_a, rt_k, op_a, op_k, op_k2, un_a, cons_a, cons_k, cons_k2, nil_a, c_a, tup_a, tup_k, lst_a, lst_k, bl_a, bl_k, eif_a, eif_t, eif_f, nt_a, nt_k, an_a, an_t, an_f, or_a, or_t, or_f, van_a, van_t, van_f, vor_a, vor_t, vor_f, vnt_a, vnt_k, ch_a, ch_ka, ch_kb, ch_t, ch_f, ch_k2, par_a, par_k, tg_a, tg_k, nx_k, b_nm, b_pr, b_tr, tr_k, e_nm, e_pr, for_a, for_k, call_a, any_a, items_l, items_t, idx_a, idx_k, idx_k2, no_a, some_a, some_k, sl_a, sl_k, sl_k1, sl_k2, get_a, get_k, get_k1, get_k2, run_a, run_rt, run_ro, run_nx, runo_a, runo_k, next_a, err_a, v0, v1, kD_ok, kD_err, vw_nil, th_nil, frz_nil, unS_fz, unS_no, unS_ow, List.map_cons, List.map_nil, List.set_cons_zero, List.set_cons_succ, startD, List.replicate, List.cons_append, List.nil_append, List.length_cons, List.length_nil, Nat.reduceAdd, Nat.reduceSub, dAdd_i, dSub_i, dOrd_i, bMin2_i, bMax2_i, tx0, tx1, tx2, tx3, lx0, lx1, comp_a, comp_k, comp_nil, comp_cons, comp_k1, comp_t, comp_f, comp_k3, comp_tt, pure_ok, wipe_nil, wipe_cons, en_a, en_k, enF_nil, enF_cons, zp_a, zp_l, zp_t, zpF_cons, zpF_nil, rg1_a, rg2_a, len_t, len_l, tuple_l, isi_ii, isi_bi, isi_tt, isi_ll, isi_ss, sl1, Bool.not_true, Bool.not_false, app_b, app_l, tix_a, tix_l, reto_a, reto_l, List.getElem?_cons_zero, List.getElem?_cons_succ, paro_a, paro_k, neg_i, rev_l, cut_l, told_a, told_ok, told_err, zp_m, compx_a, compx_k, tx_a, tx_k, h1, h2, h3]
theorem fits_ev (rd bl : D) (b : Bool) (h1 : F_need_rule [rd] = .ok .none) (h2 : F_need_bills [bl] = .ok .none) (h3 : F_is_fit [rd, bl] = .ok (.bool b)) : F_fits [rd, bl] = .ok (.bool b) := by
  simp only [F_fits, b_fits, seq_a, seq_nx, seq_rt, seq_ct, seq_bk, seq_err, if_a, if_t, if_f, asg_a, asg_k, own_a, own_k, lc_a, lc_k, ex_a, ex_k, rt_a, rt_k, op_a, op_k, op_k2, un_a, cons_a, cons_k, cons_k2, nil_a, c_a, tup_a, tup_k, lst_a, lst_k, bl_a, bl_k, eif_a, eif_t, eif_f, nt_a, nt_k, an_a, an_t, an_f, or_a, or_t, or_f, van_a, van_t, van_f, vor_a, vor_t, vor_f, vnt_a, vnt_k, ch_a, ch_ka, ch_kb, ch_t, ch_f, ch_k2, par_a, par_k, tg_a, tg_k, nx_k, b_nm, b_pr, b_tr, tr_k, e_nm, e_pr, for_a, for_k, call_a, any_a, items_l, items_t, idx_a, idx_k, idx_k2, no_a, some_a, some_k, sl_a, sl_k, sl_k1, sl_k2, get_a, get_k, get_k1, get_k2, run_a, run_rt, run_ro, run_nx, runo_a, runo_k, next_a, err_a, v0, v1, kD_ok, kD_err, vw_nil, th_nil, frz_nil, unS_fz, unS_no, unS_ow, List.map_cons, List.map_nil, List.set_cons_zero, List.set_cons_succ, startD, List.replicate, List.cons_append, List.nil_append, List.length_cons, List.length_nil, Nat.reduceAdd, Nat.reduceSub, dAdd_i, dSub_i, dOrd_i, bMin2_i, bMax2_i, tx0, tx1, tx2, tx3, lx0, lx1, comp_a, comp_k, comp_nil, comp_cons, comp_k1, comp_t, comp_f, comp_k3, comp_tt, pure_ok, wipe_nil, wipe_cons, en_a, en_k, enF_nil, enF_cons, zp_a, zp_l, zp_t, zpF_cons, zpF_nil, rg1_a, rg2_a, len_t, len_l, tuple_l, isi_ii, isi_bi, isi_tt, isi_ll, isi_ss, sl1, Bool.not_true, Bool.not_false, app_b, app_l, tix_a, tix_l, reto_a, reto_l, List.getElem?_cons_zero, List.getElem?_cons_succ, paro_a, paro_k, neg_i, rev_l, cut_l, told_a, told_ok, told_err, zp_m, compx_a, compx_k, tx_a, tx_k, h1, h2, h3]
theorem need_rule_good (d : D) (h : F_is_rule [d] = .ok (.bool true)) : F_need_rule [d] = .ok .none := by
  simp only [F_need_rule, b_need_rule, seq_a, seq_nx, seq_rt, seq_ct, seq_bk, seq_err, if_a, if_t, if_f, asg_a, asg_k, own_a, own_k, lc_a, lc_k, ex_a, ex_k, rt_a, rt_k, op_a, op_k, op_k2, un_a, cons_a, cons_k, cons_k2, nil_a, c_a, tup_a, tup_k, lst_a, lst_k, bl_a, bl_k, eif_a, eif_t, eif_f, nt_a, nt_k, an_a, an_t, an_f, or_a, or_t, or_f, van_a, van_t, van_f, vor_a, vor_t, vor_f, vnt_a, vnt_k, ch_a, ch_ka, ch_kb, ch_t, ch_f, ch_k2, par_a, par_k, tg_a, tg_k, nx_k, b_nm, b_pr, b_tr, tr_k, e_nm, e_pr, for_a, for_k, call_a, any_a, items_l, items_t, idx_a, idx_k, idx_k2, no_a, some_a, some_k, sl_a, sl_k, sl_k1, sl_k2, get_a, get_k, get_k1, get_k2, run_a, run_rt, run_ro, run_nx, runo_a, runo_k, next_a, err_a, v0, v1, kD_ok, kD_err, vw_nil, th_nil, frz_nil, unS_fz, unS_no, unS_ow, List.map_cons, List.map_nil, List.set_cons_zero, List.set_cons_succ, startD, List.replicate, List.cons_append, List.nil_append, List.length_cons, List.length_nil, Nat.reduceAdd, Nat.reduceSub, dAdd_i, dSub_i, dOrd_i, bMin2_i, bMax2_i, tx0, tx1, tx2, tx3, lx0, lx1, comp_a, comp_k, comp_nil, comp_cons, comp_k1, comp_t, comp_f, comp_k3, comp_tt, pure_ok, wipe_nil, wipe_cons, en_a, en_k, enF_nil, enF_cons, zp_a, zp_l, zp_t, zpF_cons, zpF_nil, rg1_a, rg2_a, len_t, len_l, tuple_l, isi_ii, isi_bi, isi_tt, isi_ll, isi_ss, sl1, Bool.not_true, Bool.not_false, app_b, app_l, tix_a, tix_l, reto_a, reto_l, List.getElem?_cons_zero, List.getElem?_cons_succ, paro_a, paro_k, neg_i, rev_l, cut_l, told_a, told_ok, told_err, zp_m, compx_a, compx_k, tx_a, tx_k, h]
theorem nl_rls (l : List Rl) : dNe (.list (l.map Rl.D)) (.list []) = .ok (.bool (!l.isEmpty)) := by
  rw [neE (shp_rls l)]
  cases l <;> rfl
theorem eqv_rls (l : List Rl) : PyData.eqv (.list (l.map Rl.D)) (.list (l.map Rl.D)) = true := PySem.SeqAt.eqv_refl _ (SeqAt.canLay_of_shaped (shp_rls l))
theorem ne_self {d : D} (h : SeqAt.shaped d = true) : dNe d d = .ok (.bool false) := by
  unfold dNe
  rw [if_pos ⟨h, h⟩, PySem.SeqAt.eqv_refl _ (SeqAt.canLay_of_shaped h)]
  rfl
/-! kinds of which a rule fits -/
theorem kf_t (kd bl : D) (k : Str) (fl : List Rl) (h : F_fitting [.list [.str k], bl] = .ok (.list (fl.map Rl.D))) : t_kinds_for_1 [some kd, some bl, some (.str k)] = .ok (!fl.isEmpty) := by
  have e := nl_rls fl
  simp only [t_kinds_for_1, seq_a, seq_nx, seq_rt, seq_ct, seq_bk, seq_err, if_a, if_t, if_f, asg_a, asg_k, own_a, own_k, lc_a, lc_k, ex_a, ex_k, rt_a, rt_k, op_a, op_k, op_k2, un_a, cons_a, cons_k, cons_k2, nil_a, c_a, tup_a, tup_k, lst_a, lst_k, bl_a, bl_k, eif_a, eif_t, eif_f, nt_a, nt_k, an_a, an_t, an_f, or_a, or_t, or_f, van_a, van_t, van_f, vor_a, vor_t, vor_f, vnt_a, vnt_k, ch_a, ch_ka, ch_kb, ch_t, ch_f, ch_k2, par_a, par_k, tg_a, tg_k, nx_k, b_nm, b_pr, b_tr, tr_k, e_nm, e_pr, for_a, for_k, call_a, any_a, items_l, items_t, idx_a, idx_k, idx_k2, no_a, some_a, some_k, sl_a, sl_k, sl_k1, sl_k2, get_a, get_k, get_k1, get_k2, run_a, run_rt, run_ro, run_nx, runo_a, runo_k, next_a, err_a, v0, v1, kD_ok, kD_err, vw_nil, th_nil, frz_nil, unS_fz, unS_no, unS_ow, List.map_cons, List.map_nil, List.set_cons_zero, List.set_cons_succ, startD, List.replicate, List.cons_append, List.nil_append, List.length_cons, List.length_nil, Nat.reduceAdd, Nat.reduceSub, dAdd_i, dSub_i, dOrd_i, bMin2_i, bMax2_i, tx0, tx1, tx2, tx3, lx0, lx1, comp_a, comp_k, comp_nil, comp_cons, comp_k1, comp_t, comp_f, comp_k3, comp_tt, pure_ok, wipe_nil, wipe_cons, en_a, en_k, enF_nil, enF_cons, zp_a, zp_l, zp_t, zpF_cons, zpF_nil, rg1_a, rg2_a, len_t, len_l, tuple_l, isi_ii, isi_bi, isi_tt, isi_ll, isi_ss, sl1, Bool.not_true, Bool.not_false, app_b, app_l, tix_a, tix_l, reto_a, reto_l, List.getElem?_cons_zero, List.getElem?_cons_succ, paro_a, paro_k, neg_i, rev_l, cut_l, told_a, told_ok, told_err, zp_m, compx_a, compx_k, tx_a, tx_k, h, e]
theorem kinds_for_ev (kd : List D) (bl : D) (out : List D) (h1 : F_need_kinds [.list kd] = .ok .none) (h2 : F_need_bills [bl] = .ok .none) (h3 : compL [some (.list kd), some bl, none] (.nm 2) t_kinds_for_1 (eVar 2) kd = .ok out) : F_kinds_for [.list kd, bl] = .ok (.list out) := by
  simp only [F_kinds_for, b_kinds_for, seq_a, seq_nx, seq_rt, seq_ct, seq_bk, seq_err, if_a, if_t, if_f, asg_a, asg_k, own_a, own_k, lc_a, lc_k, ex_a, ex_k, rt_a, rt_k, op_a, op_k, op_k2, un_a, cons_a, cons_k, cons_k2, nil_a, c_a, tup_a, tup_k, lst_a, lst_k, bl_a, bl_k, eif_a, eif_t, eif_f, nt_a, nt_k, an_a, an_t, an_f, or_a, or_t, or_f, van_a, van_t, van_f, vor_a, vor_t, vor_f, vnt_a, vnt_k, ch_a, ch_ka, ch_kb, ch_t, ch_f, ch_k2, par_a, par_k, tg_a, tg_k, nx_k, b_nm, b_pr, b_tr, tr_k, e_nm, e_pr, for_a, for_k, call_a, any_a, items_l, items_t, idx_a, idx_k, idx_k2, no_a, some_a, some_k, sl_a, sl_k, sl_k1, sl_k2, get_a, get_k, get_k1, get_k2, run_a, run_rt, run_ro, run_nx, runo_a, runo_k, next_a, err_a, v0, v1, kD_ok, kD_err, vw_nil, th_nil, frz_nil, unS_fz, unS_no, unS_ow, List.map_cons, List.map_nil, List.set_cons_zero, List.set_cons_succ, startD, List.replicate, List.cons_append, List.nil_append, List.length_cons, List.length_nil, Nat.reduceAdd, Nat.reduceSub, dAdd_i, dSub_i, dOrd_i, bMin2_i, bMax2_i, tx0, tx1, tx2, tx3, lx0, lx1, comp_a, comp_k, comp_nil, comp_cons, comp_k1, comp_t, comp_f, comp_k3, comp_tt, pure_ok, wipe_nil, wipe_cons, en_a, en_k, enF_nil, enF_cons, zp_a, zp_l, zp_t, zpF_cons, zpF_nil, rg1_a, rg2_a, len_t, len_l, tuple_l, isi_ii, isi_bi, isi_tt, isi_ll, isi_ss, sl1, Bool.not_true, Bool.not_false, app_b, app_l, tix_a, tix_l, reto_a, reto_l, List.getElem?_cons_zero, List.getElem?_cons_succ, paro_a, paro_k, neg_i, rev_l, cut_l, told_a, told_ok, told_err, zp_m, compx_a, compx_k, tx_a, tx_k, h1, h2, h3]
def kf (ks : List Str) (bs : List Bl) (k : Str) : Bool := (dueR ks bs).any fun r => r.k == k
theorem KL.one {k : Str} (h : k ∈ kindsL) : KL [k] := KL.of_sub (List.singleton_sublist.mpr h) (by simp)
theorem kf_one {ks : List Str} (K : KL ks) (bs : List Bl) {k : Str} (hk : k ∈ ks) : (!(dueR [k] bs).isEmpty) = kf ks bs k := by
  have e : dueR [k] bs = (rlsK k).filter fun r => fits r bs := by
    unfold dueR allR
    rw [List.flatMap_cons, List.flatMap_nil, List.append_nil]
  rw [e]
  unfold kf
  rw [Bool.eq_iff_iff, Bool.not_eq_true', List.any_eq_true]
  constructor
  · intro h
    have ne : (rlsK k).filter (fun r => fits r bs) ≠ [] := fun z => by rw [z] at h; cases h
    obtain ⟨r, l, hl⟩ := List.exists_cons_of_ne_nil ne
    have hr : r ∈ (rlsK k).filter fun r => fits r bs := by rw [hl]; simp
    obtain ⟨h1, h2⟩ := List.mem_filter.mp hr
    obtain ⟨_, h3⟩ := rlsK_ok (K.sub k hk) h1
    exact ⟨r, List.mem_filter.mpr ⟨List.mem_flatMap.mpr ⟨k, hk, h1⟩, h2⟩, by rw [h3]; exact beq_self_eq_true k⟩
  · rintro ⟨r, hr, hk2⟩
    obtain ⟨h1, h2⟩ := List.mem_filter.mp hr
    obtain ⟨_, _, h3⟩ := allR_mem K h1
    rw [eq_of_beq hk2] at h3
    cases q : (rlsK k).filter fun r => fits r bs with
    | nil =>
      have : r ∈ (rlsK k).filter fun r => fits r bs := List.mem_filter.mpr ⟨h3, h2⟩
      rw [q] at this
      cases this
    | cons a l => rfl
theorem kinds_for_ok {ks : List Str} (K : KL ks) (bs : List Bl) (hb : ∀ b ∈ bs, b.ok) (hl : bs.length ≤ 8) : F_kinds_for [.list (ks.map PyData.str), .list (bs.map bD)] = .ok (.list ((ks.filter (kf ks bs)).map PyData.str)) := by
  refine kinds_for_ev _ _ _ (need_kinds_ok K) (need_bills_ok bs hb hl) (comp_filter PyData.str (kf ks bs) ks fun k hk => ⟨?_, rfl⟩)
  rw [← kf_one K bs hk]
  exact kf_t _ _ k _ (fitting_ok (KL.one (K.sub k hk)) bs)
/-! costs -/
theorem intsOf_map : ∀ ns : List Int, intsOf (ns.map PyData.int) = some ns
  | [] => rfl
  | n :: ns => by
    show (intsOf (ns.map PyData.int)).map (n :: ·) = _
    rw [intsOf_map ns]
    rfl
def col (l : List Rl) (m : Nat) : List Int := TG.upI (l.map fun r => r.pr m)
theorem sortset_ok (ns : List Int) (h : ns.length ≤ 4000) : dSortSet (.list (ns.map PyData.int)) = .ok (.list ((TG.upI ns).map PyData.int)) := by
  unfold dSortSet
  simp only [intsOf_map]
  rw [if_pos h]
theorem costs_el (s0 s1 : Option D) (m : Int) (r : Rl) (p : Int) (h : F_price [r.D, .int m] = .ok (.int p)) : e_costs_1 [s0, s1, some (.int m), some r.D] = .ok (.int p) := by
  simp only [e_costs_1, seq_a, seq_nx, seq_rt, seq_ct, seq_bk, seq_err, if_a, if_t, if_f, asg_a, asg_k, own_a, own_k, lc_a, lc_k, ex_a, ex_k, rt_a, rt_k, op_a, op_k, op_k2, un_a, cons_a, cons_k, cons_k2, nil_a, c_a, tup_a, tup_k, lst_a, lst_k, bl_a, bl_k, eif_a, eif_t, eif_f, nt_a, nt_k, an_a, an_t, an_f, or_a, or_t, or_f, van_a, van_t, van_f, vor_a, vor_t, vor_f, vnt_a, vnt_k, ch_a, ch_ka, ch_kb, ch_t, ch_f, ch_k2, par_a, par_k, tg_a, tg_k, nx_k, b_nm, b_pr, b_tr, tr_k, e_nm, e_pr, for_a, for_k, call_a, any_a, items_l, items_t, idx_a, idx_k, idx_k2, no_a, some_a, some_k, sl_a, sl_k, sl_k1, sl_k2, get_a, get_k, get_k1, get_k2, run_a, run_rt, run_ro, run_nx, runo_a, runo_k, next_a, err_a, v0, v1, kD_ok, kD_err, vw_nil, th_nil, frz_nil, unS_fz, unS_no, unS_ow, List.map_cons, List.map_nil, List.set_cons_zero, List.set_cons_succ, startD, List.replicate, List.cons_append, List.nil_append, List.length_cons, List.length_nil, Nat.reduceAdd, Nat.reduceSub, dAdd_i, dSub_i, dOrd_i, bMin2_i, bMax2_i, tx0, tx1, tx2, tx3, lx0, lx1, comp_a, comp_k, comp_nil, comp_cons, comp_k1, comp_t, comp_f, comp_k3, comp_tt, pure_ok, wipe_nil, wipe_cons, en_a, en_k, enF_nil, enF_cons, zp_a, zp_l, zp_t, zpF_cons, zpF_nil, rg1_a, rg2_a, len_t, len_l, tuple_l, isi_ii, isi_bi, isi_tt, isi_ll, isi_ss, sl1, Bool.not_true, Bool.not_false, app_b, app_l, tix_a, tix_l, reto_a, reto_l, List.getElem?_cons_zero, List.getElem?_cons_succ, paro_a, paro_k, neg_i, rev_l, cut_l, told_a, told_ok, told_err, zp_m, compx_a, compx_k, tx_a, tx_k, h]
theorem costs_ev (kd bl : D) (m : Int) (fl out : List D) (z : D) (h1 : F_need_kinds [kd] = .ok .none) (h2 : F_need_bills [bl] = .ok .none) (h3 : F_is_count [.int m, .int 0, .int 20] = .ok (.bool true)) (h4 : F_fitting [kd, bl] = .ok (.list fl))
    (h5 : compL [some kd, some bl, some (.int m), none] (.nm 3) tTrue e_costs_1 fl = .ok out) (h6 : dSortSet (.list out) = .ok z) : F_costs [kd, bl, .int m] = .ok z := by
  have e1 : c_MOST_MANY = .int 20 := rfl
  simp only [F_costs, b_costs, seq_a, seq_nx, seq_rt, seq_ct, seq_bk, seq_err, if_a, if_t, if_f, asg_a, asg_k, own_a, own_k, lc_a, lc_k, ex_a, ex_k, rt_a, rt_k, op_a, op_k, op_k2, un_a, cons_a, cons_k, cons_k2, nil_a, c_a, tup_a, tup_k, lst_a, lst_k, bl_a, bl_k, eif_a, eif_t, eif_f, nt_a, nt_k, an_a, an_t, an_f, or_a, or_t, or_f, van_a, van_t, van_f, vor_a, vor_t, vor_f, vnt_a, vnt_k, ch_a, ch_ka, ch_kb, ch_t, ch_f, ch_k2, par_a, par_k, tg_a, tg_k, nx_k, b_nm, b_pr, b_tr, tr_k, e_nm, e_pr, for_a, for_k, call_a, any_a, items_l, items_t, idx_a, idx_k, idx_k2, no_a, some_a, some_k, sl_a, sl_k, sl_k1, sl_k2, get_a, get_k, get_k1, get_k2, run_a, run_rt, run_ro, run_nx, runo_a, runo_k, next_a, err_a, v0, v1, kD_ok, kD_err, vw_nil, th_nil, frz_nil, unS_fz, unS_no, unS_ow, List.map_cons, List.map_nil, List.set_cons_zero, List.set_cons_succ, startD, List.replicate, List.cons_append, List.nil_append, List.length_cons, List.length_nil, Nat.reduceAdd, Nat.reduceSub, dAdd_i, dSub_i, dOrd_i, bMin2_i, bMax2_i, tx0, tx1, tx2, tx3, lx0, lx1, comp_a, comp_k, comp_nil, comp_cons, comp_k1, comp_t, comp_f, comp_k3, comp_tt, pure_ok, wipe_nil, wipe_cons, en_a, en_k, enF_nil, enF_cons, zp_a, zp_l, zp_t, zpF_cons, zpF_nil, rg1_a, rg2_a, len_t, len_l, tuple_l, isi_ii, isi_bi, isi_tt, isi_ll, isi_ss, sl1, Bool.not_true, Bool.not_false, app_b, app_l, tix_a, tix_l, reto_a, reto_l, List.getElem?_cons_zero, List.getElem?_cons_succ, paro_a, paro_k, neg_i, rev_l, cut_l, told_a, told_ok, told_err, zp_m, compx_a, compx_k, tx_a, tx_k, e1, h1, h2, h3, h4, h5, h6]
theorem costs_ok {ks : List Str} (K : KL ks) (bs : List Bl) (hb : ∀ b ∈ bs, b.ok) (hl : bs.length ≤ 8) (m : Nat) (hm : m ≤ 20) : F_costs [.list (ks.map PyData.str), .list (bs.map bD), .int (m : Nat)] = .ok (.list ((col (dueR ks bs) m).map PyData.int)) := by
  refine costs_ev _ _ _ _ (((dueR ks bs).map fun r => r.pr m).map PyData.int) _ (need_kinds_ok K) (need_bills_ok bs hb hl) (cnt_i (by omega) (by omega)) (fitting_ok K bs) ?_ (sortset_ok _ (by rw [List.length_map]; have := due_len K bs; omega))
  rw [List.map_map]
  exact comp_map Rl.D (fun r => PyData.int (r.pr m)) _ fun r hr => costs_el _ _ _ r _ (price_ok r (due_ok K hr) m)
/-! what is sure -/
def one (l : List Int) : D := if l.length = 1 then .int (l.headD 0) else .none
theorem one_at (l : List Int) (h : (((l.map PyData.int).length : Nat) : Int) = 1) : dIx (.list (l.map PyData.int)) (.int 0) = .ok (one l) := by
  rw [List.length_map] at h
  have h2 : l.length = 1 := by omega
  obtain ⟨x, rfl⟩ := List.length_eq_one_iff.mp h2
  exact lx0 _ _
theorem sure_3 (s0 s1 s2 s3 s4 s5 : Option D) (l : List Int) : e_sure_3 [s0, s1, s2, s3, s4, s5, some (.list (l.map PyData.int))] = .ok (one l) := by
  by_cases h : (((l.map PyData.int).length : Nat) : Int) = 1
  · have e1 : ((((l.map PyData.int).length : Nat) : Int) == 1) = true := by rw [h]; rfl
    have e2 := one_at l h
    simp only [e_sure_3, seq_a, seq_nx, seq_rt, seq_ct, seq_bk, seq_err, if_a, if_t, if_f, asg_a, asg_k, own_a, own_k, lc_a, lc_k, ex_a, ex_k, rt_a, rt_k, op_a, op_k, op_k2, un_a, cons_a, cons_k, cons_k2, nil_a, c_a, tup_a, tup_k, lst_a, lst_k, bl_a, bl_k, eif_a, eif_t, eif_f, nt_a, nt_k, an_a, an_t, an_f, or_a, or_t, or_f, van_a, van_t, van_f, vor_a, vor_t, vor_f, vnt_a, vnt_k, ch_a, ch_ka, ch_kb, ch_t, ch_f, ch_k2, par_a, par_k, tg_a, tg_k, nx_k, b_nm, b_pr, b_tr, tr_k, e_nm, e_pr, for_a, for_k, call_a, any_a, items_l, items_t, idx_a, idx_k, idx_k2, no_a, some_a, some_k, sl_a, sl_k, sl_k1, sl_k2, get_a, get_k, get_k1, get_k2, run_a, run_rt, run_ro, run_nx, runo_a, runo_k, next_a, err_a, v0, v1, kD_ok, kD_err, vw_nil, th_nil, frz_nil, unS_fz, unS_no, unS_ow, List.map_cons, List.map_nil, List.set_cons_zero, List.set_cons_succ, startD, List.replicate, List.cons_append, List.nil_append, List.length_cons, List.length_nil, Nat.reduceAdd, Nat.reduceSub, dAdd_i, dSub_i, dOrd_i, bMin2_i, bMax2_i, tx0, tx1, tx2, tx3, lx0, lx1, comp_a, comp_k, comp_nil, comp_cons, comp_k1, comp_t, comp_f, comp_k3, comp_tt, pure_ok, wipe_nil, wipe_cons, en_a, en_k, enF_nil, enF_cons, zp_a, zp_l, zp_t, zpF_cons, zpF_nil, rg1_a, rg2_a, len_t, len_l, tuple_l, isi_ii, isi_bi, isi_tt, isi_ll, isi_ss, sl1, Bool.not_true, Bool.not_false, app_b, app_l, tix_a, tix_l, reto_a, reto_l, List.getElem?_cons_zero, List.getElem?_cons_succ, paro_a, paro_k, neg_i, rev_l, cut_l, told_a, told_ok, told_err, zp_m, compx_a, compx_k, tx_a, tx_k, eqI, e1, e2]
  · have e1 : ((((l.map PyData.int).length : Nat) : Int) == 1) = false := beq_eq_false_iff_ne.mpr h
    have e2 : one l = .none := if_neg fun z => h (by rw [List.length_map, z]; rfl)
    simp only [e_sure_3, seq_a, seq_nx, seq_rt, seq_ct, seq_bk, seq_err, if_a, if_t, if_f, asg_a, asg_k, own_a, own_k, lc_a, lc_k, ex_a, ex_k, rt_a, rt_k, op_a, op_k, op_k2, un_a, cons_a, cons_k, cons_k2, nil_a, c_a, tup_a, tup_k, lst_a, lst_k, bl_a, bl_k, eif_a, eif_t, eif_f, nt_a, nt_k, an_a, an_t, an_f, or_a, or_t, or_f, van_a, van_t, van_f, vor_a, vor_t, vor_f, vnt_a, vnt_k, ch_a, ch_ka, ch_kb, ch_t, ch_f, ch_k2, par_a, par_k, tg_a, tg_k, nx_k, b_nm, b_pr, b_tr, tr_k, e_nm, e_pr, for_a, for_k, call_a, any_a, items_l, items_t, idx_a, idx_k, idx_k2, no_a, some_a, some_k, sl_a, sl_k, sl_k1, sl_k2, get_a, get_k, get_k1, get_k2, run_a, run_rt, run_ro, run_nx, runo_a, runo_k, next_a, err_a, v0, v1, kD_ok, kD_err, vw_nil, th_nil, frz_nil, unS_fz, unS_no, unS_ow, List.map_cons, List.map_nil, List.set_cons_zero, List.set_cons_succ, startD, List.replicate, List.cons_append, List.nil_append, List.length_cons, List.length_nil, Nat.reduceAdd, Nat.reduceSub, dAdd_i, dSub_i, dOrd_i, bMin2_i, bMax2_i, tx0, tx1, tx2, tx3, lx0, lx1, comp_a, comp_k, comp_nil, comp_cons, comp_k1, comp_t, comp_f, comp_k3, comp_tt, pure_ok, wipe_nil, wipe_cons, en_a, en_k, enF_nil, enF_cons, zp_a, zp_l, zp_t, zpF_cons, zpF_nil, rg1_a, rg2_a, len_t, len_l, tuple_l, isi_ii, isi_bi, isi_tt, isi_ll, isi_ss, sl1, Bool.not_true, Bool.not_false, app_b, app_l, tix_a, tix_l, reto_a, reto_l, List.getElem?_cons_zero, List.getElem?_cons_succ, paro_a, paro_k, neg_i, rev_l, cut_l, told_a, told_ok, told_err, zp_m, compx_a, compx_k, tx_a, tx_k, eqI, e1, e2]
theorem sure_1 (s0 s1 s2 s3 s6 : Option D) (m : Int) (r : Rl) (p : Int) (h : F_price [r.D, .int m] = .ok (.int p)) : e_sure_1 [s0, s1, s2, s3, some r.D, some (.int m), s6] = .ok (.int p) := by
  simp only [e_sure_1, seq_a, seq_nx, seq_rt, seq_ct, seq_bk, seq_err, if_a, if_t, if_f, asg_a, asg_k, own_a, own_k, lc_a, lc_k, ex_a, ex_k, rt_a, rt_k, op_a, op_k, op_k2, un_a, cons_a, cons_k, cons_k2, nil_a, c_a, tup_a, tup_k, lst_a, lst_k, bl_a, bl_k, eif_a, eif_t, eif_f, nt_a, nt_k, an_a, an_t, an_f, or_a, or_t, or_f, van_a, van_t, van_f, vor_a, vor_t, vor_f, vnt_a, vnt_k, ch_a, ch_ka, ch_kb, ch_t, ch_f, ch_k2, par_a, par_k, tg_a, tg_k, nx_k, b_nm, b_pr, b_tr, tr_k, e_nm, e_pr, for_a, for_k, call_a, any_a, items_l, items_t, idx_a, idx_k, idx_k2, no_a, some_a, some_k, sl_a, sl_k, sl_k1, sl_k2, get_a, get_k, get_k1, get_k2, run_a, run_rt, run_ro, run_nx, runo_a, runo_k, next_a, err_a, v0, v1, kD_ok, kD_err, vw_nil, th_nil, frz_nil, unS_fz, unS_no, unS_ow, List.map_cons, List.map_nil, List.set_cons_zero, List.set_cons_succ, startD, List.replicate, List.cons_append, List.nil_append, List.length_cons, List.length_nil, Nat.reduceAdd, Nat.reduceSub, dAdd_i, dSub_i, dOrd_i, bMin2_i, bMax2_i, tx0, tx1, tx2, tx3, lx0, lx1, comp_a, comp_k, comp_nil, comp_cons, comp_k1, comp_t, comp_f, comp_k3, comp_tt, pure_ok, wipe_nil, wipe_cons, en_a, en_k, enF_nil, enF_cons, zp_a, zp_l, zp_t, zpF_cons, zpF_nil, rg1_a, rg2_a, len_t, len_l, tuple_l, isi_ii, isi_bi, isi_tt, isi_ll, isi_ss, sl1, Bool.not_true, Bool.not_false, app_b, app_l, tix_a, tix_l, reto_a, reto_l, List.getElem?_cons_zero, List.getElem?_cons_succ, paro_a, paro_k, neg_i, rev_l, cut_l, told_a, told_ok, told_err, zp_m, compx_a, compx_k, tx_a, tx_k, h]
theorem sure_2 (s0 s1 s3 s4 s6 : Option D) (m : Int) (fl out : List D) (z : D) (h1 : compL [s0, s1, some (.list fl), s3, none, some (.int m), s6] (.nm 4) tTrue e_sure_1 fl = .ok out) (h2 : dSortSet (.list out) = .ok z) : e_sure_2 [s0, s1, some (.list fl), s3, s4, some (.int m), s6] = .ok z := by
  simp only [e_sure_2, seq_a, seq_nx, seq_rt, seq_ct, seq_bk, seq_err, if_a, if_t, if_f, asg_a, asg_k, own_a, own_k, lc_a, lc_k, ex_a, ex_k, rt_a, rt_k, op_a, op_k, op_k2, un_a, cons_a, cons_k, cons_k2, nil_a, c_a, tup_a, tup_k, lst_a, lst_k, bl_a, bl_k, eif_a, eif_t, eif_f, nt_a, nt_k, an_a, an_t, an_f, or_a, or_t, or_f, van_a, van_t, van_f, vor_a, vor_t, vor_f, vnt_a, vnt_k, ch_a, ch_ka, ch_kb, ch_t, ch_f, ch_k2, par_a, par_k, tg_a, tg_k, nx_k, b_nm, b_pr, b_tr, tr_k, e_nm, e_pr, for_a, for_k, call_a, any_a, items_l, items_t, idx_a, idx_k, idx_k2, no_a, some_a, some_k, sl_a, sl_k, sl_k1, sl_k2, get_a, get_k, get_k1, get_k2, run_a, run_rt, run_ro, run_nx, runo_a, runo_k, next_a, err_a, v0, v1, kD_ok, kD_err, vw_nil, th_nil, frz_nil, unS_fz, unS_no, unS_ow, List.map_cons, List.map_nil, List.set_cons_zero, List.set_cons_succ, startD, List.replicate, List.cons_append, List.nil_append, List.length_cons, List.length_nil, Nat.reduceAdd, Nat.reduceSub, dAdd_i, dSub_i, dOrd_i, bMin2_i, bMax2_i, tx0, tx1, tx2, tx3, lx0, lx1, comp_a, comp_k, comp_nil, comp_cons, comp_k1, comp_t, comp_f, comp_k3, comp_tt, pure_ok, wipe_nil, wipe_cons, en_a, en_k, enF_nil, enF_cons, zp_a, zp_l, zp_t, zpF_cons, zpF_nil, rg1_a, rg2_a, len_t, len_l, tuple_l, isi_ii, isi_bi, isi_tt, isi_ll, isi_ss, sl1, Bool.not_true, Bool.not_false, app_b, app_l, tix_a, tix_l, reto_a, reto_l, List.getElem?_cons_zero, List.getElem?_cons_succ, paro_a, paro_k, neg_i, rev_l, cut_l, told_a, told_ok, told_err, zp_m, compx_a, compx_k, tx_a, tx_k, h1, h2]
theorem sure_no (kd bl : D) (fl : List D) (h1 : F_need_kinds [kd] = .ok .none) (h2 : F_need_bills [bl] = .ok .none) (h3 : F_fitting [kd, bl] = .ok (.list fl)) (h4 : dEq (.list fl) (.list []) = .ok (.bool true)) : F_sure [kd, bl] = .err .noRule := by
  simp only [F_sure, b_sure, seq_a, seq_nx, seq_rt, seq_ct, seq_bk, seq_err, if_a, if_t, if_f, asg_a, asg_k, own_a, own_k, lc_a, lc_k, ex_a, ex_k, rt_a, rt_k, op_a, op_k, op_k2, un_a, cons_a, cons_k, cons_k2, nil_a, c_a, tup_a, tup_k, lst_a, lst_k, bl_a, bl_k, eif_a, eif_t, eif_f, nt_a, nt_k, an_a, an_t, an_f, or_a, or_t, or_f, van_a, van_t, van_f, vor_a, vor_t, vor_f, vnt_a, vnt_k, ch_a, ch_ka, ch_kb, ch_t, ch_f, ch_k2, par_a, par_k, tg_a, tg_k, nx_k, b_nm, b_pr, b_tr, tr_k, e_nm, e_pr, for_a, for_k, call_a, any_a, items_l, items_t, idx_a, idx_k, idx_k2, no_a, some_a, some_k, sl_a, sl_k, sl_k1, sl_k2, get_a, get_k, get_k1, get_k2, run_a, run_rt, run_ro, run_nx, runo_a, runo_k, next_a, err_a, v0, v1, kD_ok, kD_err, vw_nil, th_nil, frz_nil, unS_fz, unS_no, unS_ow, List.map_cons, List.map_nil, List.set_cons_zero, List.set_cons_succ, startD, List.replicate, List.cons_append, List.nil_append, List.length_cons, List.length_nil, Nat.reduceAdd, Nat.reduceSub, dAdd_i, dSub_i, dOrd_i, bMin2_i, bMax2_i, tx0, tx1, tx2, tx3, lx0, lx1, comp_a, comp_k, comp_nil, comp_cons, comp_k1, comp_t, comp_f, comp_k3, comp_tt, pure_ok, wipe_nil, wipe_cons, en_a, en_k, enF_nil, enF_cons, zp_a, zp_l, zp_t, zpF_cons, zpF_nil, rg1_a, rg2_a, len_t, len_l, tuple_l, isi_ii, isi_bi, isi_tt, isi_ll, isi_ss, sl1, Bool.not_true, Bool.not_false, app_b, app_l, tix_a, tix_l, reto_a, reto_l, List.getElem?_cons_zero, List.getElem?_cons_succ, paro_a, paro_k, neg_i, rev_l, cut_l, told_a, told_ok, told_err, zp_m, compx_a, compx_k, tx_a, tx_k, h1, h2, h3, h4]
theorem sure_ev (kd bl : D) (fl rows out : List D) (h1 : F_need_kinds [kd] = .ok .none) (h2 : F_need_bills [bl] = .ok .none) (h3 : F_fitting [kd, bl] = .ok (.list fl)) (h4 : dEq (.list fl) (.list []) = .ok (.bool false))
    (h5 : rg1K [.int (20 + 1)] = .ok (rgD 0 21)) (h6 : compL [some kd, some bl, some (.list fl), none, none, none, none] (.nm 5) tTrue e_sure_2 (rgD 0 21) = .ok rows) (h7 : compL [some kd, some bl, some (.list fl), some (.list rows), none, none, none] (.nm 6) tTrue e_sure_3 rows = .ok out) : F_sure [kd, bl] = .ok (.list out) := by
  have e1 : c_MOST_MANY = .int 20 := rfl
  simp only [F_sure, b_sure, seq_a, seq_nx, seq_rt, seq_ct, seq_bk, seq_err, if_a, if_t, if_f, asg_a, asg_k, own_a, own_k, lc_a, lc_k, ex_a, ex_k, rt_a, rt_k, op_a, op_k, op_k2, un_a, cons_a, cons_k, cons_k2, nil_a, c_a, tup_a, tup_k, lst_a, lst_k, bl_a, bl_k, eif_a, eif_t, eif_f, nt_a, nt_k, an_a, an_t, an_f, or_a, or_t, or_f, van_a, van_t, van_f, vor_a, vor_t, vor_f, vnt_a, vnt_k, ch_a, ch_ka, ch_kb, ch_t, ch_f, ch_k2, par_a, par_k, tg_a, tg_k, nx_k, b_nm, b_pr, b_tr, tr_k, e_nm, e_pr, for_a, for_k, call_a, any_a, items_l, items_t, idx_a, idx_k, idx_k2, no_a, some_a, some_k, sl_a, sl_k, sl_k1, sl_k2, get_a, get_k, get_k1, get_k2, run_a, run_rt, run_ro, run_nx, runo_a, runo_k, next_a, err_a, v0, v1, kD_ok, kD_err, vw_nil, th_nil, frz_nil, unS_fz, unS_no, unS_ow, List.map_cons, List.map_nil, List.set_cons_zero, List.set_cons_succ, startD, List.replicate, List.cons_append, List.nil_append, List.length_cons, List.length_nil, Nat.reduceAdd, Nat.reduceSub, dAdd_i, dSub_i, dOrd_i, bMin2_i, bMax2_i, tx0, tx1, tx2, tx3, lx0, lx1, comp_a, comp_k, comp_nil, comp_cons, comp_k1, comp_t, comp_f, comp_k3, comp_tt, pure_ok, wipe_nil, wipe_cons, en_a, en_k, enF_nil, enF_cons, zp_a, zp_l, zp_t, zpF_cons, zpF_nil, rg1_a, rg2_a, len_t, len_l, tuple_l, isi_ii, isi_bi, isi_tt, isi_ll, isi_ss, sl1, Bool.not_true, Bool.not_false, app_b, app_l, tix_a, tix_l, reto_a, reto_l, List.getElem?_cons_zero, List.getElem?_cons_succ, paro_a, paro_k, neg_i, rev_l, cut_l, told_a, told_ok, told_err, zp_m, compx_a, compx_k, tx_a, tx_k, e1, h1, h2, h3, h4, h5, h6, h7]
theorem rgD_map (n : Nat) : rgD 0 n = (List.range n).map fun m : Nat => PyData.int (m : Nat) := by
  unfold rgD
  refine List.map_congr_left fun m _ => ?_
  rw [Int.zero_add]
def sureL (l : List Rl) : List D := (List.range 21).map fun m => one (col l m)
theorem sure_ok {ks : List Str} (K : KL ks) (bs : List Bl) (hb : ∀ b ∈ bs, b.ok) (hl : bs.length ≤ 8) (ne : (dueR ks bs).isEmpty = false) : F_sure [.list (ks.map PyData.str), .list (bs.map bD)] = .ok (.list (sureL (dueR ks bs))) := by
  have e4 : dEq (.list ((dueR ks bs).map Rl.D)) (.list []) = .ok (.bool false) := by
    rw [eqE (shp_rls _)]
    congr 2
    cases q : dueR ks bs with
    | nil => rw [q] at ne; cases ne
    | cons a l => rfl
  refine sure_ev _ _ _ ((List.range 21).map fun m => PyData.list ((col (dueR ks bs) m).map PyData.int)) _ (need_kinds_ok K) (need_bills_ok bs hb hl) (fitting_ok K bs) e4 (by kernel_rfl) ?_ ?_
  · rw [rgD_map]
    refine comp_map (fun m : Nat => PyData.int (m : Nat)) (fun m : Nat => PyData.list ((col (dueR ks bs) m).map PyData.int)) _ fun m _ => ?_
    refine sure_2 _ _ _ _ _ _ _ (((dueR ks bs).map fun r => r.pr m).map PyData.int) _ ?_ (sortset_ok _ (by rw [List.length_map]; have := due_len K bs; omega))
    rw [List.map_map]
    exact comp_map Rl.D (fun r => PyData.int (r.pr m)) _ fun r hr => sure_1 _ _ _ _ _ _ r _ (price_ok r (due_ok K hr) m)
  · exact comp_map (fun m : Nat => PyData.list ((col (dueR ks bs) m).map PyData.int)) (fun m : Nat => one (col (dueR ks bs) m)) _ fun m _ => sure_3 _ _ _ _ _ _ _
/-! settled -/
theorem eqv_no (i : Int) : PyData.eqv (.int i) .none = false := by simp [PyData.eqv]
theorem eqv_nn : PyData.eqv .none .none = true := by simp [PyData.eqv]
theorem okFl_one (l : List Int) : okFl (one l) = true := by
  unfold one
  split <;> rfl
theorem okFl_sure (l : List Rl) : (sureL l).all okFl = true := by
  unfold sureL
  rw [List.all_map, List.all_eq_true]
  exact fun m _ => okFl_one _
def settB (l : List Rl) : Bool := (List.range 21).all fun m => (col l m).length == 1
theorem in_sure (l : List Rl) : dIn true .none (.list (sureL l)) = .ok (.bool (settB l)) := by
  show (if SeqAt.shaped .none = true ∧ SeqAt.shaped (.list (sureL l)) = true then R.ok (PyData.bool (!((sureL l).any fun z => PyData.eqv z .none))) else .bad) = _
  rw [if_pos ⟨by kernel_rfl, shp_flatL _ (okFl_sure l)⟩]
  congr 2
  unfold settB sureL
  rw [List.any_map, List.not_any_eq_all_not]
  refine congrArg (fun f => (List.range 21).all f) (funext fun m => ?_)
  show (!PyData.eqv (one (col l m)) .none) = _
  unfold one
  by_cases h : (col l m).length = 1
  · rw [if_pos h, eqv_no, h]
    rfl
  · rw [if_neg h, eqv_nn, beq_eq_false_iff_ne.mpr h]
    rfl
theorem sett_no (kd bl : D) (fl : List D) (h1 : F_need_kinds [kd] = .ok .none) (h2 : F_need_bills [bl] = .ok .none) (h3 : F_fitting [kd, bl] = .ok (.list fl)) (h4 : dNe (.list fl) (.list []) = .ok (.bool false)) : F_is_settled [kd, bl] = .ok (.bool false) := by
  simp only [F_is_settled, b_is_settled, seq_a, seq_nx, seq_rt, seq_ct, seq_bk, seq_err, if_a, if_t, if_f, asg_a, asg_k, own_a, own_k, lc_a, lc_k, ex_a, ex_k, rt_a, rt_k, op_a, op_k, op_k2, un_a, cons_a, cons_k, cons_k2, nil_a, c_a, tup_a, tup_k, lst_a, lst_k, bl_a, bl_k, eif_a, eif_t, eif_f, nt_a, nt_k, an_a, an_t, an_f, or_a, or_t, or_f, van_a, van_t, van_f, vor_a, vor_t, vor_f, vnt_a, vnt_k, ch_a, ch_ka, ch_kb, ch_t, ch_f, ch_k2, par_a, par_k, tg_a, tg_k, nx_k, b_nm, b_pr, b_tr, tr_k, e_nm, e_pr, for_a, for_k, call_a, any_a, items_l, items_t, idx_a, idx_k, idx_k2, no_a, some_a, some_k, sl_a, sl_k, sl_k1, sl_k2, get_a, get_k, get_k1, get_k2, run_a, run_rt, run_ro, run_nx, runo_a, runo_k, next_a, err_a, v0, v1, kD_ok, kD_err, vw_nil, th_nil, frz_nil, unS_fz, unS_no, unS_ow, List.map_cons, List.map_nil, List.set_cons_zero, List.set_cons_succ, startD, List.replicate, List.cons_append, List.nil_append, List.length_cons, List.length_nil, Nat.reduceAdd, Nat.reduceSub, dAdd_i, dSub_i, dOrd_i, bMin2_i, bMax2_i, tx0, tx1, tx2, tx3, lx0, lx1, comp_a, comp_k, comp_nil, comp_cons, comp_k1, comp_t, comp_f, comp_k3, comp_tt, pure_ok, wipe_nil, wipe_cons, en_a, en_k, enF_nil, enF_cons, zp_a, zp_l, zp_t, zpF_cons, zpF_nil, rg1_a, rg2_a, len_t, len_l, tuple_l, isi_ii, isi_bi, isi_tt, isi_ll, isi_ss, sl1, Bool.not_true, Bool.not_false, app_b, app_l, tix_a, tix_l, reto_a, reto_l, List.getElem?_cons_zero, List.getElem?_cons_succ, paro_a, paro_k, neg_i, rev_l, cut_l, told_a, told_ok, told_err, zp_m, compx_a, compx_k, tx_a, tx_k, h1, h2, h3, h4]
theorem sett_ev (kd bl s : D) (fl : List D) (b : Bool) (h1 : F_need_kinds [kd] = .ok .none) (h2 : F_need_bills [bl] = .ok .none) (h3 : F_fitting [kd, bl] = .ok (.list fl)) (h4 : dNe (.list fl) (.list []) = .ok (.bool true)) (h5 : F_sure [kd, bl] = .ok s) (h6 : dIn true .none s = .ok (.bool b)) : F_is_settled [kd, bl] = .ok (.bool b) := by
  simp only [F_is_settled, b_is_settled, seq_a, seq_nx, seq_rt, seq_ct, seq_bk, seq_err, if_a, if_t, if_f, asg_a, asg_k, own_a, own_k, lc_a, lc_k, ex_a, ex_k, rt_a, rt_k, op_a, op_k, op_k2, un_a, cons_a, cons_k, cons_k2, nil_a, c_a, tup_a, tup_k, lst_a, lst_k, bl_a, bl_k, eif_a, eif_t, eif_f, nt_a, nt_k, an_a, an_t, an_f, or_a, or_t, or_f, van_a, van_t, van_f, vor_a, vor_t, vor_f, vnt_a, vnt_k, ch_a, ch_ka, ch_kb, ch_t, ch_f, ch_k2, par_a, par_k, tg_a, tg_k, nx_k, b_nm, b_pr, b_tr, tr_k, e_nm, e_pr, for_a, for_k, call_a, any_a, items_l, items_t, idx_a, idx_k, idx_k2, no_a, some_a, some_k, sl_a, sl_k, sl_k1, sl_k2, get_a, get_k, get_k1, get_k2, run_a, run_rt, run_ro, run_nx, runo_a, runo_k, next_a, err_a, v0, v1, kD_ok, kD_err, vw_nil, th_nil, frz_nil, unS_fz, unS_no, unS_ow, List.map_cons, List.map_nil, List.set_cons_zero, List.set_cons_succ, startD, List.replicate, List.cons_append, List.nil_append, List.length_cons, List.length_nil, Nat.reduceAdd, Nat.reduceSub, dAdd_i, dSub_i, dOrd_i, bMin2_i, bMax2_i, tx0, tx1, tx2, tx3, lx0, lx1, comp_a, comp_k, comp_nil, comp_cons, comp_k1, comp_t, comp_f, comp_k3, comp_tt, pure_ok, wipe_nil, wipe_cons, en_a, en_k, enF_nil, enF_cons, zp_a, zp_l, zp_t, zpF_cons, zpF_nil, rg1_a, rg2_a, len_t, len_l, tuple_l, isi_ii, isi_bi, isi_tt, isi_ll, isi_ss, sl1, Bool.not_true, Bool.not_false, app_b, app_l, tix_a, tix_l, reto_a, reto_l, List.getElem?_cons_zero, List.getElem?_cons_succ, paro_a, paro_k, neg_i, rev_l, cut_l, told_a, told_ok, told_err, zp_m, compx_a, compx_k, tx_a, tx_k, h1, h2, h3, h4, h5, h6]
end DL.K30
set_option Elab.async false
set_option linter.all false
set_option maxRecDepth 100000
set_option maxHeartbeats 4000000
/-! P30d: the law's own readings: rows, columns, what is in a list. -/
namespace DL.K30
open PySem PySem.Spec PyProof.Rows L2 RZ DL
theorem neB (a b : Bool) : dNe (.bool a) (.bool b) = .ok (.bool (!(a == b))) := by
  unfold dNe
  rw [if_pos ⟨by cases a <;> kernel_rfl, by cases b <;> kernel_rfl⟩]
  simp [PyData.eqv]
theorem neBB (b : Bool) : dNe (.bool b) (.bool b) = .ok (.bool false) := by
  rw [neB]
  simp
/-! rules as data -/
theorem eqvAll_ints : ∀ a b : List Int, PyData.eqvAll (a.map PyData.int) (b.map PyData.int) = true → a = b
  | [], [], _ => rfl
  | [], _ :: _, h => by simp [PyData.eqvAll] at h
  | _ :: _, [], h => by simp [PyData.eqvAll] at h
  | x :: a, y :: b, h => by
    simp only [List.map_cons, PyData.eqvAll, PyData.eqv, Bool.and_eq_true, beq_iff_eq] at h
    rw [h.1, eqvAll_ints a b h.2]
theorem rl_tup (r : Rl) : ∃ ns : List Int, r.D = .tuple (.str r.k :: ns.map PyData.int) := by
  cases r with
  | flat c => exact ⟨[c], rfl⟩
  | each c => exact ⟨[c], rfl⟩
  | base a b => exact ⟨[a, b], rfl⟩
  | frm c n d => exact ⟨[c, n, d], rfl⟩
  | packs c n => exact ⟨[c, n], rfl⟩
  | gift c n => exact ⟨[c, n], rfl⟩
  | least a b => exact ⟨[a, b], rfl⟩
  | most a b => exact ⟨[a, b], rfl⟩
  | off c n d => exact ⟨[c, n, d], rfl⟩
theorem rl_key (r : Rl) : dIx r.D (.int 0) = .ok (.str r.k) := by
  obtain ⟨ns, e⟩ := rl_tup r
  rw [e]
  exact tx0 _ _
theorem eqv_rl {r r' : Rl} (h : PyData.eqv r'.D r.D = true) : r'.D = r.D := by
  obtain ⟨ns, e⟩ := rl_tup r
  obtain ⟨ns', e'⟩ := rl_tup r'
  rw [e, e'] at h ⊢
  simp only [PyData.eqv, PyData.eqvAll, Bool.and_eq_true, beq_iff_eq] at h
  rw [h.1, eqvAll_ints _ _ h.2]
theorem pr_same {r r' : Rl} (h : r.ok) (h' : r'.ok) (e : r'.D = r.D) (m : Nat) : r'.pr m = r.pr m := by
  have a := price_ok r h m
  have b := price_ok r' h' m
  rw [e, a] at b
  injection b with b
  injection b with b
  exact b.symm
theorem fits_same {r r' : Rl} (h : r.ok) (h' : r'.ok) (e : r'.D = r.D) (bs : List Bl) : fits r' bs = fits r bs := by
  unfold fits
  refine congrArg (fun f => bs.all f) (funext fun b => ?_)
  rw [pr_same h h' e]
theorem shp_rl (r : Rl) : SeqAt.shaped r.D = true := by cases r <;> kernel_rfl
theorem in_due {ks : List Str} (K : KL ks) (bs : List Bl) {r : Rl} (hr : r ∈ allR ks) : dIn false r.D (.list ((dueR ks bs).map Rl.D)) = .ok (.bool (fits r bs)) := by
  show (if SeqAt.shaped r.D = true ∧ SeqAt.shaped (.list ((dueR ks bs).map Rl.D)) = true then R.ok (PyData.bool (if false = true then !(((dueR ks bs).map Rl.D).any fun z => PyData.eqv z r.D) else ((dueR ks bs).map Rl.D).any fun z => PyData.eqv z r.D)) else .bad) = _
  rw [if_pos ⟨shp_rl r, shp_rls _⟩, if_neg (by decide)]
  congr 2
  rw [Bool.eq_iff_iff, List.any_eq_true]
  constructor
  · rintro ⟨z, hz, e⟩
    obtain ⟨r', hr', rfl⟩ := List.mem_map.mp hz
    have e2 := eqv_rl e
    rw [← fits_same (allR_mem K hr).1 (due_ok K hr') e2 bs]
    exact (List.mem_filter.mp hr').2
  · intro h
    exact ⟨r.D, List.mem_map.mpr ⟨r, List.mem_filter.mpr ⟨hr, h⟩, rfl⟩, PySem.SeqAt.eqv_refl _ (SeqAt.canLay_of_shaped (shp_rl r))⟩
theorem in_kinds {ks : List Str} (K : KL ks) (bs : List Bl) (k : Str) (hk : k ∈ ks) : dIn false (.str k) (.list ((dueR ks bs).map fun r => PyData.str r.k)) = .ok (.bool (kf ks bs k)) := by
  have e : ((dueR ks bs).map fun r => PyData.str r.k) = ((dueR ks bs).map Rl.k).map PyData.str := by rw [List.map_map]; rfl
  have o : ∀ x ∈ (dueR ks bs).map Rl.k, x ∈ kindsL := fun x hx => by
    obtain ⟨r, hr, rfl⟩ := List.mem_map.mp hx
    exact K.sub _ (allR_mem K (List.mem_filter.mp hr).1).2.1
  have hs : SeqAt.shaped (.str k) = true := by
    have h := K.sub k hk
    simp only [kindsL, List.mem_cons, List.not_mem_nil, or_false] at h
    rcases h with rfl | rfl | rfl | rfl | rfl | rfl | rfl | rfl | rfl <;> kernel_rfl
  rw [e]
  show (if SeqAt.shaped (.str k) = true ∧ SeqAt.shaped (.list (((dueR ks bs).map Rl.k).map PyData.str)) = true then R.ok (PyData.bool (if false = true then !((((dueR ks bs).map Rl.k).map PyData.str).any fun z => PyData.eqv z (.str k)) else (((dueR ks bs).map Rl.k).map PyData.str).any fun z => PyData.eqv z (.str k))) else .bad) = _
  rw [if_pos ⟨hs, shp_flatL _ (okFl_kinds _ o)⟩, if_neg (by decide)]
  congr 2
  unfold kf
  rw [List.map_map, List.any_map]
  exact congrArg (fun f => (dueR ks bs).any f) (funext fun r => eqv_ss _ _)
/-! rows -/
def rowL (r : Rl) : List Int := (List.range 21).map fun m => r.pr m
def rowD (r : Rl) : D := .list ((rowL r).map PyData.int)
theorem row_ev (rd : D) (out : List D) (hl : rg1K [.int 21] = .ok (rgD 0 21)) (hc : compL [some rd, none] (.nm 1) tTrue e__law_row_1 (rgD 0 21) = .ok out) : F__law_row [rd] = .ok (.list out) := by
  simp only [F__law_row, b__law_row, seq_a, seq_nx, seq_rt, seq_ct, seq_bk, seq_err, if_a, if_t, if_f, asg_a, asg_k, own_a, own_k, lc_a, lc_k, ex_a, ex_k, rt_a, rt_k, op_a, op_k, op_k2, un_a, cons_a, cons_k, cons_k2, nil_a, c_a, tup_a, tup_k, lst_a, lst_k, bl_a, bl_k, eif_a, eif_t, eif_f, nt_a, nt_k, an_a, an_t, an_f, or_a, or_t, or_f, van_a, van_t, van_f, vor_a, vor_t, vor_f, vnt_a, vnt_k, ch_a, ch_ka, ch_kb, ch_t, ch_f, ch_k2, par_a, par_k, tg_a, tg_k, nx_k, b_nm, b_pr, b_tr, tr_k, e_nm, e_pr, for_a, for_k, call_a, any_a, items_l, items_t, idx_a, idx_k, idx_k2, no_a, some_a, some_k, sl_a, sl_k, sl_k1, sl_k2, get_a, get_k, get_k1, get_k2, run_a, run_rt, run_ro, run_nx, runo_a, runo_k, next_a, err_a, v0, v1, kD_ok, kD_err, vw_nil, th_nil, frz_nil, unS_fz, unS_no, unS_ow, List.map_cons, List.map_nil, List.set_cons_zero, List.set_cons_succ, startD, List.replicate, List.cons_append, List.nil_append, List.length_cons, List.length_nil, Nat.reduceAdd, Nat.reduceSub, dAdd_i, dSub_i, dOrd_i, bMin2_i, bMax2_i, tx0, tx1, tx2, tx3, lx0, lx1, comp_a, comp_k, comp_nil, comp_cons, comp_k1, comp_t, comp_f, comp_k3, comp_tt, pure_ok, wipe_nil, wipe_cons, en_a, en_k, enF_nil, enF_cons, zp_a, zp_l, zp_t, zpF_cons, zpF_nil, rg1_a, rg2_a, len_t, len_l, tuple_l, isi_ii, isi_bi, isi_tt, isi_ll, isi_ss, sl1, Bool.not_true, Bool.not_false, app_b, app_l, tix_a, tix_l, reto_a, reto_l, List.getElem?_cons_zero, List.getElem?_cons_succ, paro_a, paro_k, neg_i, rev_l, cut_l, told_a, told_ok, told_err, zp_m, compx_a, compx_k, tx_a, tx_k, hl, hc]
theorem row_el (s0 x z : D) (h : F__law_cost [s0, x] = .ok z) : e__law_row_1 [some s0, some x] = .ok z := by
  simp only [e__law_row_1, seq_a, seq_nx, seq_rt, seq_ct, seq_bk, seq_err, if_a, if_t, if_f, asg_a, asg_k, own_a, own_k, lc_a, lc_k, ex_a, ex_k, rt_a, rt_k, op_a, op_k, op_k2, un_a, cons_a, cons_k, cons_k2, nil_a, c_a, tup_a, tup_k, lst_a, lst_k, bl_a, bl_k, eif_a, eif_t, eif_f, nt_a, nt_k, an_a, an_t, an_f, or_a, or_t, or_f, van_a, van_t, van_f, vor_a, vor_t, vor_f, vnt_a, vnt_k, ch_a, ch_ka, ch_kb, ch_t, ch_f, ch_k2, par_a, par_k, tg_a, tg_k, nx_k, b_nm, b_pr, b_tr, tr_k, e_nm, e_pr, for_a, for_k, call_a, any_a, items_l, items_t, idx_a, idx_k, idx_k2, no_a, some_a, some_k, sl_a, sl_k, sl_k1, sl_k2, get_a, get_k, get_k1, get_k2, run_a, run_rt, run_ro, run_nx, runo_a, runo_k, next_a, err_a, v0, v1, kD_ok, kD_err, vw_nil, th_nil, frz_nil, unS_fz, unS_no, unS_ow, List.map_cons, List.map_nil, List.set_cons_zero, List.set_cons_succ, startD, List.replicate, List.cons_append, List.nil_append, List.length_cons, List.length_nil, Nat.reduceAdd, Nat.reduceSub, dAdd_i, dSub_i, dOrd_i, bMin2_i, bMax2_i, tx0, tx1, tx2, tx3, lx0, lx1, comp_a, comp_k, comp_nil, comp_cons, comp_k1, comp_t, comp_f, comp_k3, comp_tt, pure_ok, wipe_nil, wipe_cons, en_a, en_k, enF_nil, enF_cons, zp_a, zp_l, zp_t, zpF_cons, zpF_nil, rg1_a, rg2_a, len_t, len_l, tuple_l, isi_ii, isi_bi, isi_tt, isi_ll, isi_ss, sl1, Bool.not_true, Bool.not_false, app_b, app_l, tix_a, tix_l, reto_a, reto_l, List.getElem?_cons_zero, List.getElem?_cons_succ, paro_a, paro_k, neg_i, rev_l, cut_l, told_a, told_ok, told_err, zp_m, compx_a, compx_k, tx_a, tx_k, h]
theorem law_row_ok (r : Rl) (h : r.ok) : F__law_row [r.D] = .ok (rowD r) := by
  refine row_ev _ _ (by kernel_rfl) ?_
  unfold rowL
  rw [rgD_map, List.map_map]
  exact comp_map (fun m : Nat => PyData.int (m : Nat)) (fun m : Nat => PyData.int (r.pr m)) _ fun m hm => row_el _ _ _ (cost_ok r h m (by have := List.mem_range.mp hm; omega))
theorem rowL_at (r : Rl) (m : Nat) (hm : m < 21) : (rowL r)[m]? = some (r.pr m) := by
  unfold rowL
  rw [List.getElem?_map, List.getElem?_range hm]
  rfl
theorem rowD_ix (r : Rl) (m : Nat) (hm : m < 21) : dIx (rowD r) (.int (m : Nat)) = .ok (.int (r.pr m)) := dIx_l (atN (by rw [List.getElem?_map, rowL_at r m hm]; rfl))
/-! the readings of the law -/
section
variable (s0 s1 s2 s3 s4 s5 s6 s7 s8 s9 s10 s11 s12 s13 s14 s15 : Option D)
theorem r1 (rd bl : D) (b : Bool) (h : F__law_fits [rd, bl] = .ok (.bool b)) : t_law_1 [s0, s1, s2, s3, some bl, s5, s6, some rd, s8, s9, s10, s11, s12, s13, s14, s15] = .ok b := by
  simp only [t_law_1, seq_a, seq_nx, seq_rt, seq_ct, seq_bk, seq_err, if_a, if_t, if_f, asg_a, asg_k, own_a, own_k, lc_a, lc_k, ex_a, ex_k, rt_a, rt_k, op_a, op_k, op_k2, un_a, cons_a, cons_k, cons_k2, nil_a, c_a, tup_a, tup_k, lst_a, lst_k, bl_a, bl_k, eif_a, eif_t, eif_f, nt_a, nt_k, an_a, an_t, an_f, or_a, or_t, or_f, van_a, van_t, van_f, vor_a, vor_t, vor_f, vnt_a, vnt_k, ch_a, ch_ka, ch_kb, ch_t, ch_f, ch_k2, par_a, par_k, tg_a, tg_k, nx_k, b_nm, b_pr, b_tr, tr_k, e_nm, e_pr, for_a, for_k, call_a, any_a, items_l, items_t, idx_a, idx_k, idx_k2, no_a, some_a, some_k, sl_a, sl_k, sl_k1, sl_k2, get_a, get_k, get_k1, get_k2, run_a, run_rt, run_ro, run_nx, runo_a, runo_k, next_a, err_a, v0, v1, kD_ok, kD_err, vw_nil, th_nil, frz_nil, unS_fz, unS_no, unS_ow, List.map_cons, List.map_nil, List.set_cons_zero, List.set_cons_succ, startD, List.replicate, List.cons_append, List.nil_append, List.length_cons, List.length_nil, Nat.reduceAdd, Nat.reduceSub, dAdd_i, dSub_i, dOrd_i, bMin2_i, bMax2_i, tx0, tx1, tx2, tx3, lx0, lx1, comp_a, comp_k, comp_nil, comp_cons, comp_k1, comp_t, comp_f, comp_k3, comp_tt, pure_ok, wipe_nil, wipe_cons, en_a, en_k, enF_nil, enF_cons, zp_a, zp_l, zp_t, zpF_cons, zpF_nil, rg1_a, rg2_a, len_t, len_l, tuple_l, isi_ii, isi_bi, isi_tt, isi_ll, isi_ss, sl1, Bool.not_true, Bool.not_false, app_b, app_l, tix_a, tix_l, reto_a, reto_l, List.getElem?_cons_zero, List.getElem?_cons_succ, paro_a, paro_k, neg_i, rev_l, cut_l, told_a, told_ok, told_err, zp_m, compx_a, compx_k, tx_a, tx_k, h]
theorem r2 (rd k : D) (h : dIx rd (.int 0) = .ok k) : e_law_2 [s0, s1, s2, s3, s4, s5, s6, some rd, s8, s9, s10, s11, s12, s13, s14, s15] = .ok k := by
  simp only [e_law_2, seq_a, seq_nx, seq_rt, seq_ct, seq_bk, seq_err, if_a, if_t, if_f, asg_a, asg_k, own_a, own_k, lc_a, lc_k, ex_a, ex_k, rt_a, rt_k, op_a, op_k, op_k2, un_a, cons_a, cons_k, cons_k2, nil_a, c_a, tup_a, tup_k, lst_a, lst_k, bl_a, bl_k, eif_a, eif_t, eif_f, nt_a, nt_k, an_a, an_t, an_f, or_a, or_t, or_f, van_a, van_t, van_f, vor_a, vor_t, vor_f, vnt_a, vnt_k, ch_a, ch_ka, ch_kb, ch_t, ch_f, ch_k2, par_a, par_k, tg_a, tg_k, nx_k, b_nm, b_pr, b_tr, tr_k, e_nm, e_pr, for_a, for_k, call_a, any_a, items_l, items_t, idx_a, idx_k, idx_k2, no_a, some_a, some_k, sl_a, sl_k, sl_k1, sl_k2, get_a, get_k, get_k1, get_k2, run_a, run_rt, run_ro, run_nx, runo_a, runo_k, next_a, err_a, v0, v1, kD_ok, kD_err, vw_nil, th_nil, frz_nil, unS_fz, unS_no, unS_ow, List.map_cons, List.map_nil, List.set_cons_zero, List.set_cons_succ, startD, List.replicate, List.cons_append, List.nil_append, List.length_cons, List.length_nil, Nat.reduceAdd, Nat.reduceSub, dAdd_i, dSub_i, dOrd_i, bMin2_i, bMax2_i, tx0, tx1, tx2, tx3, lx0, lx1, comp_a, comp_k, comp_nil, comp_cons, comp_k1, comp_t, comp_f, comp_k3, comp_tt, pure_ok, wipe_nil, wipe_cons, en_a, en_k, enF_nil, enF_cons, zp_a, zp_l, zp_t, zpF_cons, zpF_nil, rg1_a, rg2_a, len_t, len_l, tuple_l, isi_ii, isi_bi, isi_tt, isi_ll, isi_ss, sl1, Bool.not_true, Bool.not_false, app_b, app_l, tix_a, tix_l, reto_a, reto_l, List.getElem?_cons_zero, List.getElem?_cons_succ, paro_a, paro_k, neg_i, rev_l, cut_l, told_a, told_ok, told_err, zp_m, compx_a, compx_k, tx_a, tx_k, h]
theorem r3 (k : D) (due out : List D) (b : Bool) (h1 : compL [s0, s1, s2, s3, s4, s5, some (.list due), none, some k, s9, s10, s11, s12, s13, s14, s15] (.nm 7) tTrue e_law_2 due = .ok out) (h2 : dIn false k (.list out) = .ok (.bool b)) : t_law_3 [s0, s1, s2, s3, s4, s5, some (.list due), s7, some k, s9, s10, s11, s12, s13, s14, s15] = .ok b := by
  simp only [t_law_3, seq_a, seq_nx, seq_rt, seq_ct, seq_bk, seq_err, if_a, if_t, if_f, asg_a, asg_k, own_a, own_k, lc_a, lc_k, ex_a, ex_k, rt_a, rt_k, op_a, op_k, op_k2, un_a, cons_a, cons_k, cons_k2, nil_a, c_a, tup_a, tup_k, lst_a, lst_k, bl_a, bl_k, eif_a, eif_t, eif_f, nt_a, nt_k, an_a, an_t, an_f, or_a, or_t, or_f, van_a, van_t, van_f, vor_a, vor_t, vor_f, vnt_a, vnt_k, ch_a, ch_ka, ch_kb, ch_t, ch_f, ch_k2, par_a, par_k, tg_a, tg_k, nx_k, b_nm, b_pr, b_tr, tr_k, e_nm, e_pr, for_a, for_k, call_a, any_a, items_l, items_t, idx_a, idx_k, idx_k2, no_a, some_a, some_k, sl_a, sl_k, sl_k1, sl_k2, get_a, get_k, get_k1, get_k2, run_a, run_rt, run_ro, run_nx, runo_a, runo_k, next_a, err_a, v0, v1, kD_ok, kD_err, vw_nil, th_nil, frz_nil, unS_fz, unS_no, unS_ow, List.map_cons, List.map_nil, List.set_cons_zero, List.set_cons_succ, startD, List.replicate, List.cons_append, List.nil_append, List.length_cons, List.length_nil, Nat.reduceAdd, Nat.reduceSub, dAdd_i, dSub_i, dOrd_i, bMin2_i, bMax2_i, tx0, tx1, tx2, tx3, lx0, lx1, comp_a, comp_k, comp_nil, comp_cons, comp_k1, comp_t, comp_f, comp_k3, comp_tt, pure_ok, wipe_nil, wipe_cons, en_a, en_k, enF_nil, enF_cons, zp_a, zp_l, zp_t, zpF_cons, zpF_nil, rg1_a, rg2_a, len_t, len_l, tuple_l, isi_ii, isi_bi, isi_tt, isi_ll, isi_ss, sl1, Bool.not_true, Bool.not_false, app_b, app_l, tix_a, tix_l, reto_a, reto_l, List.getElem?_cons_zero, List.getElem?_cons_succ, paro_a, paro_k, neg_i, rev_l, cut_l, told_a, told_ok, told_err, zp_m, compx_a, compx_k, tx_a, tx_k, h1, h2]
theorem r5 (rd z : D) (h : F__law_row [rd] = .ok z) : e_law_5 [s0, s1, s2, s3, s4, s5, s6, some rd, s8, s9, s10, s11, s12, s13, s14, s15] = .ok z := by
  simp only [e_law_5, seq_a, seq_nx, seq_rt, seq_ct, seq_bk, seq_err, if_a, if_t, if_f, asg_a, asg_k, own_a, own_k, lc_a, lc_k, ex_a, ex_k, rt_a, rt_k, op_a, op_k, op_k2, un_a, cons_a, cons_k, cons_k2, nil_a, c_a, tup_a, tup_k, lst_a, lst_k, bl_a, bl_k, eif_a, eif_t, eif_f, nt_a, nt_k, an_a, an_t, an_f, or_a, or_t, or_f, van_a, van_t, van_f, vor_a, vor_t, vor_f, vnt_a, vnt_k, ch_a, ch_ka, ch_kb, ch_t, ch_f, ch_k2, par_a, par_k, tg_a, tg_k, nx_k, b_nm, b_pr, b_tr, tr_k, e_nm, e_pr, for_a, for_k, call_a, any_a, items_l, items_t, idx_a, idx_k, idx_k2, no_a, some_a, some_k, sl_a, sl_k, sl_k1, sl_k2, get_a, get_k, get_k1, get_k2, run_a, run_rt, run_ro, run_nx, runo_a, runo_k, next_a, err_a, v0, v1, kD_ok, kD_err, vw_nil, th_nil, frz_nil, unS_fz, unS_no, unS_ow, List.map_cons, List.map_nil, List.set_cons_zero, List.set_cons_succ, startD, List.replicate, List.cons_append, List.nil_append, List.length_cons, List.length_nil, Nat.reduceAdd, Nat.reduceSub, dAdd_i, dSub_i, dOrd_i, bMin2_i, bMax2_i, tx0, tx1, tx2, tx3, lx0, lx1, comp_a, comp_k, comp_nil, comp_cons, comp_k1, comp_t, comp_f, comp_k3, comp_tt, pure_ok, wipe_nil, wipe_cons, en_a, en_k, enF_nil, enF_cons, zp_a, zp_l, zp_t, zpF_cons, zpF_nil, rg1_a, rg2_a, len_t, len_l, tuple_l, isi_ii, isi_bi, isi_tt, isi_ll, isi_ss, sl1, Bool.not_true, Bool.not_false, app_b, app_l, tix_a, tix_l, reto_a, reto_l, List.getElem?_cons_zero, List.getElem?_cons_succ, paro_a, paro_k, neg_i, rev_l, cut_l, told_a, told_ok, told_err, zp_m, compx_a, compx_k, tx_a, tx_k, h]
theorem r6 (row m z : D) (h : dIx row m = .ok z) : e_law_6 [s0, s1, s2, s3, s4, s5, s6, s7, s8, s9, s10, s11, some row, some m, s14, s15] = .ok z := by
  simp only [e_law_6, seq_a, seq_nx, seq_rt, seq_ct, seq_bk, seq_err, if_a, if_t, if_f, asg_a, asg_k, own_a, own_k, lc_a, lc_k, ex_a, ex_k, rt_a, rt_k, op_a, op_k, op_k2, un_a, cons_a, cons_k, cons_k2, nil_a, c_a, tup_a, tup_k, lst_a, lst_k, bl_a, bl_k, eif_a, eif_t, eif_f, nt_a, nt_k, an_a, an_t, an_f, or_a, or_t, or_f, van_a, van_t, van_f, vor_a, vor_t, vor_f, vnt_a, vnt_k, ch_a, ch_ka, ch_kb, ch_t, ch_f, ch_k2, par_a, par_k, tg_a, tg_k, nx_k, b_nm, b_pr, b_tr, tr_k, e_nm, e_pr, for_a, for_k, call_a, any_a, items_l, items_t, idx_a, idx_k, idx_k2, no_a, some_a, some_k, sl_a, sl_k, sl_k1, sl_k2, get_a, get_k, get_k1, get_k2, run_a, run_rt, run_ro, run_nx, runo_a, runo_k, next_a, err_a, v0, v1, kD_ok, kD_err, vw_nil, th_nil, frz_nil, unS_fz, unS_no, unS_ow, List.map_cons, List.map_nil, List.set_cons_zero, List.set_cons_succ, startD, List.replicate, List.cons_append, List.nil_append, List.length_cons, List.length_nil, Nat.reduceAdd, Nat.reduceSub, dAdd_i, dSub_i, dOrd_i, bMin2_i, bMax2_i, tx0, tx1, tx2, tx3, lx0, lx1, comp_a, comp_k, comp_nil, comp_cons, comp_k1, comp_t, comp_f, comp_k3, comp_tt, pure_ok, wipe_nil, wipe_cons, en_a, en_k, enF_nil, enF_cons, zp_a, zp_l, zp_t, zpF_cons, zpF_nil, rg1_a, rg2_a, len_t, len_l, tuple_l, isi_ii, isi_bi, isi_tt, isi_ll, isi_ss, sl1, Bool.not_true, Bool.not_false, app_b, app_l, tix_a, tix_l, reto_a, reto_l, List.getElem?_cons_zero, List.getElem?_cons_succ, paro_a, paro_k, neg_i, rev_l, cut_l, told_a, told_ok, told_err, zp_m, compx_a, compx_k, tx_a, tx_k, h]
theorem r7 (m z : D) (rows out : List D) (h1 : compL [s0, s1, s2, s3, s4, s5, s6, s7, s8, s9, some (.list rows), s11, none, some m, s14, s15] (.nm 12) tTrue e_law_6 rows = .ok out) (h2 : dSortSet (.list out) = .ok z) : e_law_7 [s0, s1, s2, s3, s4, s5, s6, s7, s8, s9, some (.list rows), s11, s12, some m, s14, s15] = .ok z := by
  simp only [e_law_7, seq_a, seq_nx, seq_rt, seq_ct, seq_bk, seq_err, if_a, if_t, if_f, asg_a, asg_k, own_a, own_k, lc_a, lc_k, ex_a, ex_k, rt_a, rt_k, op_a, op_k, op_k2, un_a, cons_a, cons_k, cons_k2, nil_a, c_a, tup_a, tup_k, lst_a, lst_k, bl_a, bl_k, eif_a, eif_t, eif_f, nt_a, nt_k, an_a, an_t, an_f, or_a, or_t, or_f, van_a, van_t, van_f, vor_a, vor_t, vor_f, vnt_a, vnt_k, ch_a, ch_ka, ch_kb, ch_t, ch_f, ch_k2, par_a, par_k, tg_a, tg_k, nx_k, b_nm, b_pr, b_tr, tr_k, e_nm, e_pr, for_a, for_k, call_a, any_a, items_l, items_t, idx_a, idx_k, idx_k2, no_a, some_a, some_k, sl_a, sl_k, sl_k1, sl_k2, get_a, get_k, get_k1, get_k2, run_a, run_rt, run_ro, run_nx, runo_a, runo_k, next_a, err_a, v0, v1, kD_ok, kD_err, vw_nil, th_nil, frz_nil, unS_fz, unS_no, unS_ow, List.map_cons, List.map_nil, List.set_cons_zero, List.set_cons_succ, startD, List.replicate, List.cons_append, List.nil_append, List.length_cons, List.length_nil, Nat.reduceAdd, Nat.reduceSub, dAdd_i, dSub_i, dOrd_i, bMin2_i, bMax2_i, tx0, tx1, tx2, tx3, lx0, lx1, comp_a, comp_k, comp_nil, comp_cons, comp_k1, comp_t, comp_f, comp_k3, comp_tt, pure_ok, wipe_nil, wipe_cons, en_a, en_k, enF_nil, enF_cons, zp_a, zp_l, zp_t, zpF_cons, zpF_nil, rg1_a, rg2_a, len_t, len_l, tuple_l, isi_ii, isi_bi, isi_tt, isi_ll, isi_ss, sl1, Bool.not_true, Bool.not_false, app_b, app_l, tix_a, tix_l, reto_a, reto_l, List.getElem?_cons_zero, List.getElem?_cons_succ, paro_a, paro_k, neg_i, rev_l, cut_l, told_a, told_ok, told_err, zp_m, compx_a, compx_k, tx_a, tx_k, h1, h2]
theorem r9 (l : List Int) : e_law_9 [s0, s1, s2, s3, s4, s5, s6, s7, s8, s9, s10, s11, s12, s13, s14, some (.list (l.map PyData.int))] = .ok (one l) := by
  by_cases h : (((l.map PyData.int).length : Nat) : Int) = 1
  · have e1 : ((((l.map PyData.int).length : Nat) : Int) == 1) = true := by rw [h]; rfl
    have e2 := one_at l h
    simp only [e_law_9, seq_a, seq_nx, seq_rt, seq_ct, seq_bk, seq_err, if_a, if_t, if_f, asg_a, asg_k, own_a, own_k, lc_a, lc_k, ex_a, ex_k, rt_a, rt_k, op_a, op_k, op_k2, un_a, cons_a, cons_k, cons_k2, nil_a, c_a, tup_a, tup_k, lst_a, lst_k, bl_a, bl_k, eif_a, eif_t, eif_f, nt_a, nt_k, an_a, an_t, an_f, or_a, or_t, or_f, van_a, van_t, van_f, vor_a, vor_t, vor_f, vnt_a, vnt_k, ch_a, ch_ka, ch_kb, ch_t, ch_f, ch_k2, par_a, par_k, tg_a, tg_k, nx_k, b_nm, b_pr, b_tr, tr_k, e_nm, e_pr, for_a, for_k, call_a, any_a, items_l, items_t, idx_a, idx_k, idx_k2, no_a, some_a, some_k, sl_a, sl_k, sl_k1, sl_k2, get_a, get_k, get_k1, get_k2, run_a, run_rt, run_ro, run_nx, runo_a, runo_k, next_a, err_a, v0, v1, kD_ok, kD_err, vw_nil, th_nil, frz_nil, unS_fz, unS_no, unS_ow, List.map_cons, List.map_nil, List.set_cons_zero, List.set_cons_succ, startD, List.replicate, List.cons_append, List.nil_append, List.length_cons, List.length_nil, Nat.reduceAdd, Nat.reduceSub, dAdd_i, dSub_i, dOrd_i, bMin2_i, bMax2_i, tx0, tx1, tx2, tx3, lx0, lx1, comp_a, comp_k, comp_nil, comp_cons, comp_k1, comp_t, comp_f, comp_k3, comp_tt, pure_ok, wipe_nil, wipe_cons, en_a, en_k, enF_nil, enF_cons, zp_a, zp_l, zp_t, zpF_cons, zpF_nil, rg1_a, rg2_a, len_t, len_l, tuple_l, isi_ii, isi_bi, isi_tt, isi_ll, isi_ss, sl1, Bool.not_true, Bool.not_false, app_b, app_l, tix_a, tix_l, reto_a, reto_l, List.getElem?_cons_zero, List.getElem?_cons_succ, paro_a, paro_k, neg_i, rev_l, cut_l, told_a, told_ok, told_err, zp_m, compx_a, compx_k, tx_a, tx_k, eqI, e1, e2]
  · have e1 : ((((l.map PyData.int).length : Nat) : Int) == 1) = false := beq_eq_false_iff_ne.mpr h
    have e2 : one l = .none := if_neg fun z => h (by rw [List.length_map, z]; rfl)
    simp only [e_law_9, seq_a, seq_nx, seq_rt, seq_ct, seq_bk, seq_err, if_a, if_t, if_f, asg_a, asg_k, own_a, own_k, lc_a, lc_k, ex_a, ex_k, rt_a, rt_k, op_a, op_k, op_k2, un_a, cons_a, cons_k, cons_k2, nil_a, c_a, tup_a, tup_k, lst_a, lst_k, bl_a, bl_k, eif_a, eif_t, eif_f, nt_a, nt_k, an_a, an_t, an_f, or_a, or_t, or_f, van_a, van_t, van_f, vor_a, vor_t, vor_f, vnt_a, vnt_k, ch_a, ch_ka, ch_kb, ch_t, ch_f, ch_k2, par_a, par_k, tg_a, tg_k, nx_k, b_nm, b_pr, b_tr, tr_k, e_nm, e_pr, for_a, for_k, call_a, any_a, items_l, items_t, idx_a, idx_k, idx_k2, no_a, some_a, some_k, sl_a, sl_k, sl_k1, sl_k2, get_a, get_k, get_k1, get_k2, run_a, run_rt, run_ro, run_nx, runo_a, runo_k, next_a, err_a, v0, v1, kD_ok, kD_err, vw_nil, th_nil, frz_nil, unS_fz, unS_no, unS_ow, List.map_cons, List.map_nil, List.set_cons_zero, List.set_cons_succ, startD, List.replicate, List.cons_append, List.nil_append, List.length_cons, List.length_nil, Nat.reduceAdd, Nat.reduceSub, dAdd_i, dSub_i, dOrd_i, bMin2_i, bMax2_i, tx0, tx1, tx2, tx3, lx0, lx1, comp_a, comp_k, comp_nil, comp_cons, comp_k1, comp_t, comp_f, comp_k3, comp_tt, pure_ok, wipe_nil, wipe_cons, en_a, en_k, enF_nil, enF_cons, zp_a, zp_l, zp_t, zpF_cons, zpF_nil, rg1_a, rg2_a, len_t, len_l, tuple_l, isi_ii, isi_bi, isi_tt, isi_ll, isi_ss, sl1, Bool.not_true, Bool.not_false, app_b, app_l, tix_a, tix_l, reto_a, reto_l, List.getElem?_cons_zero, List.getElem?_cons_succ, paro_a, paro_k, neg_i, rev_l, cut_l, told_a, told_ok, told_err, zp_m, compx_a, compx_k, tx_a, tx_k, eqI, e1, e2]
theorem rr10 (l : List D) : e_law_10 [s0, s1, s2, s3, s4, s5, s6, s7, s8, s9, s10, s11, some (.list l), s13, s14, s15] = .ok (.tuple l) := by
  simp only [e_law_10, seq_a, seq_nx, seq_rt, seq_ct, seq_bk, seq_err, if_a, if_t, if_f, asg_a, asg_k, own_a, own_k, lc_a, lc_k, ex_a, ex_k, rt_a, rt_k, op_a, op_k, op_k2, un_a, cons_a, cons_k, cons_k2, nil_a, c_a, tup_a, tup_k, lst_a, lst_k, bl_a, bl_k, eif_a, eif_t, eif_f, nt_a, nt_k, an_a, an_t, an_f, or_a, or_t, or_f, van_a, van_t, van_f, vor_a, vor_t, vor_f, vnt_a, vnt_k, ch_a, ch_ka, ch_kb, ch_t, ch_f, ch_k2, par_a, par_k, tg_a, tg_k, nx_k, b_nm, b_pr, b_tr, tr_k, e_nm, e_pr, for_a, for_k, call_a, any_a, items_l, items_t, idx_a, idx_k, idx_k2, no_a, some_a, some_k, sl_a, sl_k, sl_k1, sl_k2, get_a, get_k, get_k1, get_k2, run_a, run_rt, run_ro, run_nx, runo_a, runo_k, next_a, err_a, v0, v1, kD_ok, kD_err, vw_nil, th_nil, frz_nil, unS_fz, unS_no, unS_ow, List.map_cons, List.map_nil, List.set_cons_zero, List.set_cons_succ, startD, List.replicate, List.cons_append, List.nil_append, List.length_cons, List.length_nil, Nat.reduceAdd, Nat.reduceSub, dAdd_i, dSub_i, dOrd_i, bMin2_i, bMax2_i, tx0, tx1, tx2, tx3, lx0, lx1, comp_a, comp_k, comp_nil, comp_cons, comp_k1, comp_t, comp_f, comp_k3, comp_tt, pure_ok, wipe_nil, wipe_cons, en_a, en_k, enF_nil, enF_cons, zp_a, zp_l, zp_t, zpF_cons, zpF_nil, rg1_a, rg2_a, len_t, len_l, tuple_l, isi_ii, isi_bi, isi_tt, isi_ll, isi_ss, sl1, Bool.not_true, Bool.not_false, app_b, app_l, tix_a, tix_l, reto_a, reto_l, List.getElem?_cons_zero, List.getElem?_cons_succ, paro_a, paro_k, neg_i, rev_l, cut_l, told_a, told_ok, told_err, zp_m, compx_a, compx_k, tx_a, tx_k]
/-! comprehensions of the law -/
theorem c1 {ks : List Str} (K : KL ks) (bs : List Bl) (hb : ∀ b ∈ bs, b.ok) : compL [s0, s1, s2, s3, some (.list (bs.map bD)), s5, s6, none, s8, s9, s10, s11, s12, s13, s14, s15] (.nm 7) t_law_1 (eVar 7) ((allR ks).map Rl.D) = .ok ((dueR ks bs).map Rl.D) :=
  comp_filter Rl.D (fun r => fits r bs) _ fun r hr => ⟨r1 _ _ _ _ _ _ _ _ _ _ _ _ _ _ _ _ _ (law_fits_ok r (allR_mem K hr).1 bs hb), rfl⟩
theorem c2 (l : List Rl) : compL [s0, s1, s2, s3, s4, s5, s6, none, s8, s9, s10, s11, s12, s13, s14, s15] (.nm 7) tTrue e_law_2 (l.map Rl.D) = .ok (l.map fun r => PyData.str r.k) :=
  comp_map Rl.D (fun r => PyData.str r.k) l fun r _ => r2 _ _ _ _ _ _ _ _ _ _ _ _ _ _ _ _ _ (rl_key r)
theorem c3 {ks : List Str} (K : KL ks) (bs : List Bl) : compL [s0, s1, s2, s3, s4, s5, some (.list ((dueR ks bs).map Rl.D)), s7, none, s9, s10, s11, s12, s13, s14, s15] (.nm 8) t_law_3 (eVar 8) (ks.map PyData.str) = .ok ((ks.filter (kf ks bs)).map PyData.str) :=
  comp_filter PyData.str (kf ks bs) ks fun k hk => ⟨r3 _ _ _ _ _ _ _ _ _ _ _ _ _ _ _ _ _ _ (c2 _ _ _ _ _ _ _ _ _ _ _ _ _ _ _ _) (in_kinds K bs k hk), rfl⟩
theorem c5 (l : List Rl) (h : ∀ r ∈ l, r.ok) : compL [s0, s1, s2, s3, s4, s5, s6, none, s8, s9, s10, s11, s12, s13, s14, s15] (.nm 7) tTrue e_law_5 (l.map Rl.D) = .ok (l.map rowD) :=
  comp_map Rl.D rowD l fun r hr => r5 _ _ _ _ _ _ _ _ _ _ _ _ _ _ _ _ _ (law_row_ok r (h r hr))
def colD (l : List Rl) (m : Nat) : D := .list ((col l m).map PyData.int)
theorem c7 (l : List Rl) (hl : l.length ≤ 4000) : compL [s0, s1, s2, s3, s4, s5, s6, s7, s8, s9, some (.list (l.map rowD)), s11, s12, none, s14, s15] (.nm 13) tTrue e_law_7 (rgD 0 21) = .ok ((List.range 21).map (colD l)) := by
  rw [rgD_map]
  refine comp_map (fun m : Nat => PyData.int (m : Nat)) (colD l) _ fun m hm => ?_
  refine r7 _ _ _ _ _ _ _ _ _ _ _ _ _ _ _ _ _ ((l.map fun r => r.pr m).map PyData.int) ?_ (sortset_ok _ (by rw [List.length_map]; exact hl))
  rw [List.map_map]
  exact comp_map rowD (fun r => PyData.int (r.pr m)) l fun r _ => r6 _ _ _ _ _ _ _ _ _ _ _ _ _ _ _ _ _ (rowD_ix r m (List.mem_range.mp hm))
theorem c9 (l : List Rl) : compL [s0, s1, s2, s3, s4, s5, s6, s7, s8, s9, s10, s11, s12, s13, s14, none] (.nm 15) tTrue e_law_9 ((List.range 21).map (colD l)) = .ok (sureL l) :=
  comp_map (colD l) (fun m => one (col l m)) _ fun m _ => r9 _ _ _ _ _ _ _ _ _ _ _ _ _ _ _ _
theorem c10 (l : List Rl) : compL [s0, s1, s2, s3, s4, s5, s6, s7, s8, s9, s10, s11, none, s13, s14, s15] (.nm 12) tTrue e_law_10 (l.map rowD) = .ok (l.map fun r => PyData.tuple ((rowL r).map PyData.int)) :=
  comp_map rowD (fun r => PyData.tuple ((rowL r).map PyData.int)) l fun r _ => rr10 _ _ _ _ _ _ _ _ _ _ _ _ _ _ _ _
end
/-! one row -/
theorem rows_of : ∀ l : List Rl, rowsOf (l.map fun r => PyData.tuple ((rowL r).map PyData.int)) = some (l.map rowL)
  | [] => rfl
  | r :: l => by
    have e : rowOf (.tuple ((rowL r).map PyData.int)) = some (rowL r) := intsOf_map _
    rw [List.map_cons, List.map_cons]
    unfold rowsOf
    rw [e, rows_of l]
theorem lenset_rows (l : List Rl) (h : l.length < 4800) : dLenSetR (.list (l.map fun r => PyData.tuple ((rowL r).map PyData.int))) = .ok (.int ((TG.uniq (l.map rowL)).length : Nat)) := by
  unfold dLenSetR
  simp only [rows_of]
  rw [if_pos (by rw [List.length_map]; exact h)]
theorem uniq_one {α : Type} [DecidableEq α] (x : α) (l : List α) (hx : x ∈ l) : (TG.uniq l).length = 1 ↔ ∀ y ∈ l, y = x := by
  constructor
  · intro h y hy
    obtain ⟨z, hz⟩ := List.length_eq_one_iff.mp h
    have a := TG.uniq_mem.mpr hx
    have b := TG.uniq_mem.mpr hy
    rw [hz, List.mem_singleton] at a b
    rw [a, b]
  · intro h
    have hm : ∀ y ∈ TG.uniq l, y = x := fun y hy => h y (TG.uniq_mem.mp hy)
    have hn := TG.uniq_nodup l
    have hi := TG.uniq_mem.mpr hx
    cases q : TG.uniq l with
    | nil => rw [q] at hi; cases hi
    | cons a t =>
      cases t with
      | nil => rfl
      | cons b t =>
        rw [q] at hm hn
        have e1 := hm a (by simp)
        have e2 := hm b (by simp)
        rw [List.nodup_cons] at hn
        exact absurd (show a ∈ b :: t by rw [e1, e2]; simp) hn.1
theorem upI_len (ns : List Int) : (TG.upI ns).length = (TG.uniq ns).length := by
  unfold TG.upI
  exact List.length_mergeSort _
theorem sett_rows {l : List Rl} (ne : l.isEmpty = false) : settB l = ((TG.uniq (l.map rowL)).length == 1) := by
  obtain ⟨r0, t, e0⟩ : ∃ r0 t, l = r0 :: t := by
    cases l with
    | nil => cases ne
    | cons a t => exact ⟨a, t, rfl⟩
  have h0 : r0 ∈ l := by rw [e0]; simp
  rw [Bool.eq_iff_iff, beq_iff_eq, uniq_one (rowL r0) _ (List.mem_map.mpr ⟨r0, h0, rfl⟩)]
  unfold settB
  rw [List.all_eq_true]
  constructor
  · intro h y hy
    obtain ⟨r, hr, rfl⟩ := List.mem_map.mp hy
    unfold rowL
    refine List.map_congr_left fun m hm => ?_
    have q := h m hm
    rw [beq_iff_eq] at q
    unfold col at q
    rw [upI_len] at q
    exact (uniq_one (r0.pr m) _ (List.mem_map.mpr ⟨r0, h0, rfl⟩)).mp q _ (List.mem_map.mpr ⟨r, hr, rfl⟩)
  · intro h m hm
    rw [beq_iff_eq]
    unfold col
    rw [upI_len, uniq_one (r0.pr m) _ (List.mem_map.mpr ⟨r0, h0, rfl⟩)]
    intro y hy
    obtain ⟨r, hr, rfl⟩ := List.mem_map.mp hy
    have q := h (rowL r) (List.mem_map.mpr ⟨r, hr, rfl⟩)
    have a := rowL_at r m (List.mem_range.mp hm)
    rw [q, rowL_at r0 m (List.mem_range.mp hm)] at a
    injection a with a
    exact a.symm
end DL.K30
set_option Elab.async false
set_option linter.all false
set_option maxRecDepth 100000
set_option maxHeartbeats 4000000
/-! P30e: the law of fits, all of it. -/
namespace DL.K30
open PySem PySem.Spec PyProof.Rows L2 RZ DL
theorem l4_ev (s k kd bl rd : D) (rl due : List D) (mo j v w : Int) (b : Bool) (x7 x8 x10 x11 x12 x13 x14 x15 : Sl) (h1 : F__law_drawn [.int mo, .int (10 + j)] = .ok (.int v)) (h2 : dMod (.int v) (.int (rl.length : Nat)) = .ok (.int w)) (h3 : dIx (.list rl) (.int w) = .ok rd)
    (h4 : F_fits [rd, bl] = .ok (.bool b)) (h5 : dIn false rd (.list due) = .ok (.bool b)) : L_law_4 [.fz s, .fz k, .fz (.int mo), .fz kd, .fz bl, .fz (.list rl), .fz (.list due), x7, x8, .fz (.int j), x10, x11, x12, x13, x14, x15] = .ok (.nx [.fz s, .fz k, .fz (.int mo), .fz kd, .fz bl, .fz (.list rl), .fz (.list due), .fz rd, x8, .fz (.int j), x10, x11, x12, x13, x14, x15]) := by
  simp only [L_law_4, seq_a, seq_nx, seq_rt, seq_ct, seq_bk, seq_err, if_a, if_t, if_f, asg_a, asg_k, own_a, own_k, lc_a, lc_k, ex_a, ex_k, rt_a, rt_k, op_a, op_k, op_k2, un_a, cons_a, cons_k, cons_k2, nil_a, c_a, tup_a, tup_k, lst_a, lst_k, bl_a, bl_k, eif_a, eif_t, eif_f, nt_a, nt_k, an_a, an_t, an_f, or_a, or_t, or_f, van_a, van_t, van_f, vor_a, vor_t, vor_f, vnt_a, vnt_k, ch_a, ch_ka, ch_kb, ch_t, ch_f, ch_k2, par_a, par_k, tg_a, tg_k, nx_k, b_nm, b_pr, b_tr, tr_k, e_nm, e_pr, for_a, for_k, call_a, any_a, items_l, items_t, idx_a, idx_k, idx_k2, no_a, some_a, some_k, sl_a, sl_k, sl_k1, sl_k2, get_a, get_k, get_k1, get_k2, run_a, run_rt, run_ro, run_nx, runo_a, runo_k, next_a, err_a, v0, v1, kD_ok, kD_err, vw_nil, th_nil, frz_nil, unS_fz, unS_no, unS_ow, List.map_cons, List.map_nil, List.set_cons_zero, List.set_cons_succ, startD, List.replicate, List.cons_append, List.nil_append, List.length_cons, List.length_nil, Nat.reduceAdd, Nat.reduceSub, dAdd_i, dSub_i, dOrd_i, bMin2_i, bMax2_i, tx0, tx1, tx2, tx3, lx0, lx1, comp_a, comp_k, comp_nil, comp_cons, comp_k1, comp_t, comp_f, comp_k3, comp_tt, pure_ok, wipe_nil, wipe_cons, en_a, en_k, enF_nil, enF_cons, zp_a, zp_l, zp_t, zpF_cons, zpF_nil, rg1_a, rg2_a, len_t, len_l, tuple_l, isi_ii, isi_bi, isi_tt, isi_ll, isi_ss, sl1, Bool.not_true, Bool.not_false, app_b, app_l, tix_a, tix_l, reto_a, reto_l, List.getElem?_cons_zero, List.getElem?_cons_succ, paro_a, paro_k, neg_i, rev_l, cut_l, told_a, told_ok, told_err, zp_m, compx_a, compx_k, tx_a, tx_k, h1, h2, h3, h4, h5, neBB]
theorem l8_ev (s k mo kd bl rl due rows z m : D) (somes : List D) (x7 x8 x9 x12 x14 x15 : Sl) (h1 : F_costs [kd, bl, m] = .ok z) (h2 : dIx (.list somes) m = .ok z) (h3 : dNe z z = .ok (.bool false)) : L_law_8 [.fz s, .fz k, .fz mo, .fz kd, .fz bl, .fz rl, .fz due, x7, x8, x9, .fz rows, .fz (.list somes), x12, .fz m, x14, x15] = .ok (.nx [.fz s, .fz k, .fz mo, .fz kd, .fz bl, .fz rl, .fz due, x7, x8, x9, .fz rows, .fz (.list somes), x12, .fz m, x14, x15]) := by
  simp only [L_law_8, seq_a, seq_nx, seq_rt, seq_ct, seq_bk, seq_err, if_a, if_t, if_f, asg_a, asg_k, own_a, own_k, lc_a, lc_k, ex_a, ex_k, rt_a, rt_k, op_a, op_k, op_k2, un_a, cons_a, cons_k, cons_k2, nil_a, c_a, tup_a, tup_k, lst_a, lst_k, bl_a, bl_k, eif_a, eif_t, eif_f, nt_a, nt_k, an_a, an_t, an_f, or_a, or_t, or_f, van_a, van_t, van_f, vor_a, vor_t, vor_f, vnt_a, vnt_k, ch_a, ch_ka, ch_kb, ch_t, ch_f, ch_k2, par_a, par_k, tg_a, tg_k, nx_k, b_nm, b_pr, b_tr, tr_k, e_nm, e_pr, for_a, for_k, call_a, any_a, items_l, items_t, idx_a, idx_k, idx_k2, no_a, some_a, some_k, sl_a, sl_k, sl_k1, sl_k2, get_a, get_k, get_k1, get_k2, run_a, run_rt, run_ro, run_nx, runo_a, runo_k, next_a, err_a, v0, v1, kD_ok, kD_err, vw_nil, th_nil, frz_nil, unS_fz, unS_no, unS_ow, List.map_cons, List.map_nil, List.set_cons_zero, List.set_cons_succ, startD, List.replicate, List.cons_append, List.nil_append, List.length_cons, List.length_nil, Nat.reduceAdd, Nat.reduceSub, dAdd_i, dSub_i, dOrd_i, bMin2_i, bMax2_i, tx0, tx1, tx2, tx3, lx0, lx1, comp_a, comp_k, comp_nil, comp_cons, comp_k1, comp_t, comp_f, comp_k3, comp_tt, pure_ok, wipe_nil, wipe_cons, en_a, en_k, enF_nil, enF_cons, zp_a, zp_l, zp_t, zpF_cons, zpF_nil, rg1_a, rg2_a, len_t, len_l, tuple_l, isi_ii, isi_bi, isi_tt, isi_ll, isi_ss, sl1, Bool.not_true, Bool.not_false, app_b, app_l, tix_a, tix_l, reto_a, reto_l, List.getElem?_cons_zero, List.getElem?_cons_succ, paro_a, paro_k, neg_i, rev_l, cut_l, told_a, told_ok, told_err, zp_m, compx_a, compx_k, tx_a, tx_k, h1, h2, h3]
theorem l4_loop {ks : List Str} (K : KL ks) (bs : List Bl) (hb : ∀ b ∈ bs, b.ok) (hl : bs.length ≤ 8) (s k kd : D) (mo : Int) (x7 x8 x9 x10 x11 x12 x13 x14 x15 : Sl) :
    ∃ y7 y9, forL (.nm 9) L_law_4 (rgD 0 10) [.fz s, .fz k, .fz (.int mo), .fz kd, .fz (.list (bs.map bD)), .fz (.list ((allR ks).map Rl.D)), .fz (.list ((dueR ks bs).map Rl.D)), x7, x8, x9, x10, x11, x12, x13, x14, x15] = .ok (.nx [.fz s, .fz k, .fz (.int mo), .fz kd, .fz (.list (bs.map bD)), .fz (.list ((allR ks).map Rl.D)), .fz (.list ((dueR ks bs).map Rl.D)), y7, x8, y9, x10, x11, x12, x13, x14, x15]) := by
  obtain ⟨ρ', k1, y7, y9, rfl⟩ := forL_all (p := .nm 9) (body := L_law_4) (fun ρ => ∃ y7 y9, ρ = [.fz s, .fz k, .fz (.int mo), .fz kd, .fz (.list (bs.map bD)), .fz (.list ((allR ks).map Rl.D)), .fz (.list ((dueR ks bs).map Rl.D)), y7, x8, y9, x10, x11, x12, x13, x14, x15]) (rgD 0 10) [.fz s, .fz k, .fz (.int mo), .fz kd, .fz (.list (bs.map bD)), .fz (.list ((allR ks).map Rl.D)), .fz (.list ((dueR ks bs).map Rl.D)), x7, x8, x9, x10, x11, x12, x13, x14, x15] ⟨x7, x9, rfl⟩ (by
    rintro d hd ρ ⟨y7, y9, rfl⟩
    obtain ⟨i, _, rfl⟩ := rg_mem hd
    obtain ⟨v, _, h1⟩ := drawn_ok mo (10 + (0 + (i : Int)))
    have hp : 0 < (allR ks).length := List.length_pos_iff.mpr (allR_ne K)
    have h2 : dMod (.int v) (.int (((allR ks).map Rl.D).length : Nat)) = .ok (.int (v % ((allR ks).length : Nat))) := by
      rw [List.length_map]
      exact dMod_i (by omega)
    obtain ⟨w, hw⟩ : ∃ w : Nat, v % ((allR ks).length : Nat) = (w : Int) := ⟨(v % ((allR ks).length : Nat)).toNat, by have := Int.emod_nonneg v (show (((allR ks).length : Nat) : Int) ≠ 0 by omega); omega⟩
    have hw2 : w < (allR ks).length := by
      have := Int.emod_lt_of_pos v (show (0 : Int) < ((allR ks).length : Nat) by omega)
      omega
    rw [hw] at h2
    have hm : (allR ks)[w] ∈ allR ks := List.getElem_mem hw2
    generalize hr : (allR ks)[w] = r at hm
    have hrw : (allR ks)[w]? = some r := by rw [List.getElem?_eq_getElem hw2, hr]
    have h3 : dIx (.list ((allR ks).map Rl.D)) (.int (w : Int)) = .ok r.D := dIx_l (atN (by rw [List.getElem?_map, hrw]; rfl))
    have hok := (allR_mem K hm).1
    exact ⟨_, _, rfl, .inl (l4_ev s k kd _ r.D _ _ mo _ v w (fits r bs) y7 x8 x10 x11 x12 x13 x14 x15 h1 h2 h3 (fits_ev _ _ _ (need_rule_good _ (is_rule_ok r hok)) (need_bills_ok bs hb hl) (is_fit_ok r hok bs)) (in_due K bs hm)), _, _, rfl⟩)
  exact ⟨y7, y9, k1⟩
theorem l8_loop {ks : List Str} (K : KL ks) (bs : List Bl) (hb : ∀ b ∈ bs, b.ok) (hl : bs.length ≤ 8) (s k mo rl due rows : D) (ms : List Nat) (hms : ∀ m ∈ ms, m ≤ 20) (x7 x8 x9 x12 x13 x14 x15 : Sl) :
    ∃ y13, forL (.nm 13) L_law_8 (ms.map fun m : Nat => PyData.int (m : Nat)) [.fz s, .fz k, .fz mo, .fz (.list (ks.map PyData.str)), .fz (.list (bs.map bD)), .fz rl, .fz due, x7, x8, x9, .fz rows, .fz (.list ((List.range 21).map (colD (dueR ks bs)))), x12, x13, x14, x15] = .ok (.nx [.fz s, .fz k, .fz mo, .fz (.list (ks.map PyData.str)), .fz (.list (bs.map bD)), .fz rl, .fz due, x7, x8, x9, .fz rows, .fz (.list ((List.range 21).map (colD (dueR ks bs)))), x12, y13, x14, x15]) := by
  obtain ⟨ρ', k1, y13, rfl⟩ := forL_all (p := .nm 13) (body := L_law_8) (fun ρ => ∃ y13, ρ = [.fz s, .fz k, .fz mo, .fz (.list (ks.map PyData.str)), .fz (.list (bs.map bD)), .fz rl, .fz due, x7, x8, x9, .fz rows, .fz (.list ((List.range 21).map (colD (dueR ks bs)))), x12, y13, x14, x15]) (ms.map fun m : Nat => PyData.int (m : Nat)) [.fz s, .fz k, .fz mo, .fz (.list (ks.map PyData.str)), .fz (.list (bs.map bD)), .fz rl, .fz due, x7, x8, x9, .fz rows, .fz (.list ((List.range 21).map (colD (dueR ks bs)))), x12, x13, x14, x15] ⟨x13, rfl⟩ (by
    rintro d hd ρ ⟨y13, rfl⟩
    obtain ⟨m, hm, rfl⟩ := List.mem_map.mp hd
    have hm2 := hms m hm
    have h2 : dIx (.list ((List.range 21).map (colD (dueR ks bs)))) (.int (m : Nat)) = .ok (colD (dueR ks bs) m) := dIx_l (atN (by rw [List.getElem?_map, List.getElem?_range (by omega)]; rfl))
    exact ⟨_, _, rfl, .inl (l8_ev s k mo _ _ rl due rows _ _ _ x7 x8 x9 x12 x14 x15 (costs_ok K bs hb hl m hm2) h2 (ne_self (shp_ints _))), _, rfl⟩)
  exact ⟨y13, k1⟩
theorem notF : dIsNot (.bool false) (.bool false) = .ok (.bool false) := rfl
theorem neNo : dNe (.str "NoRule") (.str "NoRule") = .ok (.bool false) := by kernel_rfl
/-- no rule is due -/
theorem l11_no (s : D) (k c mo q m1 m2 : Int) (kl bl rl due kk rows somes : List D) (x2 x3 x4 x5 x6 x7 x8 x9 x10 x11 x12 x13 x14 x15 y7 y9 y13 : Sl)
    (h1 : F__law_cell [s, .int k] = .ok (.int c)) (h2 : F__law_drawn [.int c, .int k] = .ok (.int mo)) (h3 : dFdiv (.int mo) (.int 64) = .ok (.int q)) (h4 : F__law_some [.int q] = .ok (.list kl)) (h5 : F__law_drawn [.int mo, .int 1] = .ok (.int m1)) (h6 : F__law_bills [.int m1, .list kl] = .ok (.list bl)) (h7 : F__law_rules [.list kl] = .ok (.list rl))
    (h8 : compL [some s, some (.int k), some (.int mo), some (.list kl), some (.list bl), some (.list rl), unS x6, none, unS x8, unS x9, unS x10, unS x11, unS x12, unS x13, unS x14, unS x15] (.nm 7) t_law_1 (eVar 7) rl = .ok due)
    (h9 : F_rules_for [.list kl, .list bl] = .ok (.list due)) (h10 : dNe (.list due) (.list due) = .ok (.bool false))
    (h11 : F_kinds_for [.list kl, .list bl] = .ok (.list kk)) (h12 : compL [some s, some (.int k), some (.int mo), some (.list kl), some (.list bl), some (.list rl), some (.list due), unS x7, none, unS x9, unS x10, unS x11, unS x12, unS x13, unS x14, unS x15] (.nm 8) t_law_3 (eVar 8) kl = .ok kk) (h13 : dNe (.list kk) (.list kk) = .ok (.bool false))
    (h14 : rg1K [.int 10] = .ok (rgD 0 10)) (h15 : forL (.nm 9) L_law_4 (rgD 0 10) [.fz s, .fz (.int k), .fz (.int mo), .fz (.list kl), .fz (.list bl), .fz (.list rl), .fz (.list due), x7, x8, x9, x10, x11, x12, x13, x14, x15] = .ok (.nx [.fz s, .fz (.int k), .fz (.int mo), .fz (.list kl), .fz (.list bl), .fz (.list rl), .fz (.list due), y7, x8, y9, x10, x11, x12, x13, x14, x15]))
    (h16 : compL [some s, some (.int k), some (.int mo), some (.list kl), some (.list bl), some (.list rl), some (.list due), none, unS x8, unS y9, unS x10, unS x11, unS x12, unS x13, unS x14, unS x15] (.nm 7) tTrue e_law_5 due = .ok rows)
    (h17 : rg1K [.int 21] = .ok (rgD 0 21)) (h18 : compL [some s, some (.int k), some (.int mo), some (.list kl), some (.list bl), some (.list rl), some (.list due), unS y7, unS x8, unS y9, some (.list rows), unS x11, unS x12, none, unS x14, unS x15] (.nm 13) tTrue e_law_7 (rgD 0 21) = .ok somes)
    (h19 : dMod (.int mo) (.int 21) = .ok (.int m2)) (h20 : forL (.nm 13) L_law_8 [.int 0, .int 1, .int 2, .int 20, .int m2] [.fz s, .fz (.int k), .fz (.int mo), .fz (.list kl), .fz (.list bl), .fz (.list rl), .fz (.list due), y7, x8, y9, .fz (.list rows), .fz (.list somes), x12, x13, x14, x15] = .ok (.nx [.fz s, .fz (.int k), .fz (.int mo), .fz (.list kl), .fz (.list bl), .fz (.list rl), .fz (.list due), y7, x8, y9, .fz (.list rows), .fz (.list somes), x12, y13, x14, x15]))
    (h21 : F_sure [.list kl, .list bl] = .err .noRule) (h22 : dEq (.list due) (.list []) = .ok (.bool true)) (h23 : F_is_settled [.list kl, .list bl] = .ok (.bool false)) :
    L_law_11 [.fz s, .fz (.int k), x2, x3, x4, x5, x6, x7, x8, x9, x10, x11, x12, x13, x14, x15] = .ok (.nx [.fz s, .fz (.int k), .fz (.int mo), .fz (.list kl), .fz (.list bl), .fz (.list rl), .fz (.list due), y7, x8, y9, .fz (.list rows), .fz (.list somes), x12, y13, .fz (.str "NoRule"), x15]) := by
  have w : wd .noRule = "NoRule" := rfl
  simp only [L_law_11, seq_a, seq_nx, seq_rt, seq_ct, seq_bk, seq_err, if_a, if_t, if_f, asg_a, asg_k, own_a, own_k, lc_a, lc_k, ex_a, ex_k, rt_a, rt_k, op_a, op_k, op_k2, un_a, cons_a, cons_k, cons_k2, nil_a, c_a, tup_a, tup_k, lst_a, lst_k, bl_a, bl_k, eif_a, eif_t, eif_f, nt_a, nt_k, an_a, an_t, an_f, or_a, or_t, or_f, van_a, van_t, van_f, vor_a, vor_t, vor_f, vnt_a, vnt_k, ch_a, ch_ka, ch_kb, ch_t, ch_f, ch_k2, par_a, par_k, tg_a, tg_k, nx_k, b_nm, b_pr, b_tr, tr_k, e_nm, e_pr, for_a, for_k, call_a, any_a, items_l, items_t, idx_a, idx_k, idx_k2, no_a, some_a, some_k, sl_a, sl_k, sl_k1, sl_k2, get_a, get_k, get_k1, get_k2, run_a, run_rt, run_ro, run_nx, runo_a, runo_k, next_a, err_a, v0, v1, kD_ok, kD_err, vw_nil, th_nil, frz_nil, unS_fz, unS_no, unS_ow, List.map_cons, List.map_nil, List.set_cons_zero, List.set_cons_succ, startD, List.replicate, List.cons_append, List.nil_append, List.length_cons, List.length_nil, Nat.reduceAdd, Nat.reduceSub, dAdd_i, dSub_i, dOrd_i, bMin2_i, bMax2_i, tx0, tx1, tx2, tx3, lx0, lx1, comp_a, comp_k, comp_nil, comp_cons, comp_k1, comp_t, comp_f, comp_k3, comp_tt, pure_ok, wipe_nil, wipe_cons, en_a, en_k, enF_nil, enF_cons, zp_a, zp_l, zp_t, zpF_cons, zpF_nil, rg1_a, rg2_a, len_t, len_l, tuple_l, isi_ii, isi_bi, isi_tt, isi_ll, isi_ss, sl1, Bool.not_true, Bool.not_false, app_b, app_l, tix_a, tix_l, reto_a, reto_l, List.getElem?_cons_zero, List.getElem?_cons_succ, paro_a, paro_k, neg_i, rev_l, cut_l, told_a, told_ok, told_err, zp_m, compx_a, compx_k, tx_a, tx_k, h1, h2, h3, h4, h5, h6, h7, h8, h9, h10, h11, h12, h13, h14, h15, h16, h17, h18, h19, h20, h21, h22, h23, w, notF, neNo]
/-- some rule is due -/
theorem l11_yes (s : D) (k c mo q m1 m2 n : Int) (st : Bool) (kl bl rl due kk rows somes su tups : List D) (x2 x3 x4 x5 x6 x7 x8 x9 x10 x11 x12 x13 x14 x15 y7 y9 y13 : Sl)
    (h1 : F__law_cell [s, .int k] = .ok (.int c)) (h2 : F__law_drawn [.int c, .int k] = .ok (.int mo)) (h3 : dFdiv (.int mo) (.int 64) = .ok (.int q)) (h4 : F__law_some [.int q] = .ok (.list kl)) (h5 : F__law_drawn [.int mo, .int 1] = .ok (.int m1)) (h6 : F__law_bills [.int m1, .list kl] = .ok (.list bl)) (h7 : F__law_rules [.list kl] = .ok (.list rl))
    (h8 : compL [some s, some (.int k), some (.int mo), some (.list kl), some (.list bl), some (.list rl), unS x6, none, unS x8, unS x9, unS x10, unS x11, unS x12, unS x13, unS x14, unS x15] (.nm 7) t_law_1 (eVar 7) rl = .ok due)
    (h9 : F_rules_for [.list kl, .list bl] = .ok (.list due)) (h10 : dNe (.list due) (.list due) = .ok (.bool false))
    (h11 : F_kinds_for [.list kl, .list bl] = .ok (.list kk)) (h12 : compL [some s, some (.int k), some (.int mo), some (.list kl), some (.list bl), some (.list rl), some (.list due), unS x7, none, unS x9, unS x10, unS x11, unS x12, unS x13, unS x14, unS x15] (.nm 8) t_law_3 (eVar 8) kl = .ok kk) (h13 : dNe (.list kk) (.list kk) = .ok (.bool false))
    (h14 : rg1K [.int 10] = .ok (rgD 0 10)) (h15 : forL (.nm 9) L_law_4 (rgD 0 10) [.fz s, .fz (.int k), .fz (.int mo), .fz (.list kl), .fz (.list bl), .fz (.list rl), .fz (.list due), x7, x8, x9, x10, x11, x12, x13, x14, x15] = .ok (.nx [.fz s, .fz (.int k), .fz (.int mo), .fz (.list kl), .fz (.list bl), .fz (.list rl), .fz (.list due), y7, x8, y9, x10, x11, x12, x13, x14, x15]))
    (h16 : compL [some s, some (.int k), some (.int mo), some (.list kl), some (.list bl), some (.list rl), some (.list due), none, unS x8, unS y9, unS x10, unS x11, unS x12, unS x13, unS x14, unS x15] (.nm 7) tTrue e_law_5 due = .ok rows)
    (h17 : rg1K [.int 21] = .ok (rgD 0 21)) (h18 : compL [some s, some (.int k), some (.int mo), some (.list kl), some (.list bl), some (.list rl), some (.list due), unS y7, unS x8, unS y9, some (.list rows), unS x11, unS x12, none, unS x14, unS x15] (.nm 13) tTrue e_law_7 (rgD 0 21) = .ok somes)
    (h19 : dMod (.int mo) (.int 21) = .ok (.int m2)) (h20 : forL (.nm 13) L_law_8 [.int 0, .int 1, .int 2, .int 20, .int m2] [.fz s, .fz (.int k), .fz (.int mo), .fz (.list kl), .fz (.list bl), .fz (.list rl), .fz (.list due), y7, x8, y9, .fz (.list rows), .fz (.list somes), x12, x13, x14, x15] = .ok (.nx [.fz s, .fz (.int k), .fz (.int mo), .fz (.list kl), .fz (.list bl), .fz (.list rl), .fz (.list due), y7, x8, y9, .fz (.list rows), .fz (.list somes), x12, y13, x14, x15]))
    (h21 : F_sure [.list kl, .list bl] = .ok (.list su)) (h22 : dEq (.list due) (.list []) = .ok (.bool false))
    (h23 : compL [some s, some (.int k), some (.int mo), some (.list kl), some (.list bl), some (.list rl), some (.list due), unS y7, unS x8, unS y9, some (.list rows), some (.list somes), unS x12, unS y13, some (.list su), none] (.nm 15) tTrue e_law_9 somes = .ok su) (h24 : dNe (.list su) (.list su) = .ok (.bool false))
    (h25 : F_is_settled [.list kl, .list bl] = .ok (.bool st)) (h26 : compL [some s, some (.int k), some (.int mo), some (.list kl), some (.list bl), some (.list rl), some (.list due), unS y7, unS x8, unS y9, some (.list rows), some (.list somes), none, unS y13, some (.list su), unS x15] (.nm 12) tTrue e_law_10 rows = .ok tups) (h27 : dLenSetR (.list tups) = .ok (.int n)) (h28 : (n == 1) = st) :
    L_law_11 [.fz s, .fz (.int k), x2, x3, x4, x5, x6, x7, x8, x9, x10, x11, x12, x13, x14, x15] = .ok (.nx [.fz s, .fz (.int k), .fz (.int mo), .fz (.list kl), .fz (.list bl), .fz (.list rl), .fz (.list due), y7, x8, y9, .fz (.list rows), .fz (.list somes), x12, y13, .fz (.list su), x15]) := by
  simp only [L_law_11, seq_a, seq_nx, seq_rt, seq_ct, seq_bk, seq_err, if_a, if_t, if_f, asg_a, asg_k, own_a, own_k, lc_a, lc_k, ex_a, ex_k, rt_a, rt_k, op_a, op_k, op_k2, un_a, cons_a, cons_k, cons_k2, nil_a, c_a, tup_a, tup_k, lst_a, lst_k, bl_a, bl_k, eif_a, eif_t, eif_f, nt_a, nt_k, an_a, an_t, an_f, or_a, or_t, or_f, van_a, van_t, van_f, vor_a, vor_t, vor_f, vnt_a, vnt_k, ch_a, ch_ka, ch_kb, ch_t, ch_f, ch_k2, par_a, par_k, tg_a, tg_k, nx_k, b_nm, b_pr, b_tr, tr_k, e_nm, e_pr, for_a, for_k, call_a, any_a, items_l, items_t, idx_a, idx_k, idx_k2, no_a, some_a, some_k, sl_a, sl_k, sl_k1, sl_k2, get_a, get_k, get_k1, get_k2, run_a, run_rt, run_ro, run_nx, runo_a, runo_k, next_a, err_a, v0, v1, kD_ok, kD_err, vw_nil, th_nil, frz_nil, unS_fz, unS_no, unS_ow, List.map_cons, List.map_nil, List.set_cons_zero, List.set_cons_succ, startD, List.replicate, List.cons_append, List.nil_append, List.length_cons, List.length_nil, Nat.reduceAdd, Nat.reduceSub, dAdd_i, dSub_i, dOrd_i, bMin2_i, bMax2_i, tx0, tx1, tx2, tx3, lx0, lx1, comp_a, comp_k, comp_nil, comp_cons, comp_k1, comp_t, comp_f, comp_k3, comp_tt, pure_ok, wipe_nil, wipe_cons, en_a, en_k, enF_nil, enF_cons, zp_a, zp_l, zp_t, zpF_cons, zpF_nil, rg1_a, rg2_a, len_t, len_l, tuple_l, isi_ii, isi_bi, isi_tt, isi_ll, isi_ss, sl1, Bool.not_true, Bool.not_false, app_b, app_l, tix_a, tix_l, reto_a, reto_l, List.getElem?_cons_zero, List.getElem?_cons_succ, paro_a, paro_k, neg_i, rev_l, cut_l, told_a, told_ok, told_err, zp_m, compx_a, compx_k, tx_a, tx_k, h1, h2, h3, h4, h5, h6, h7, h8, h9, h10, h11, h12, h13, h14, h15, h16, h17, h18, h19, h20, h21, h22, h23, h24, h25, h26, h27, h28, eqI, neBB]
theorem l11_ok (ns : List Int) (hn : ns.length ≤ 63) (k : Nat) (x2 x3 x4 x5 x6 x7 x8 x9 x10 x11 x12 x13 x14 x15 : Sl) : ∃ y2 y3 y4 y5 y6 y7 y8 y9 y10 y11 y12 y13 y14 y15, L_law_11 [.fz (.list (ns.map PyData.int)), .fz (.int (k : Nat)), x2, x3, x4, x5, x6, x7, x8, x9, x10, x11, x12, x13, x14, x15] = .ok (.nx [.fz (.list (ns.map PyData.int)), .fz (.int (k : Nat)), y2, y3, y4, y5, y6, y7, y8, y9, y10, y11, y12, y13, y14, y15]) := by
  obtain ⟨c, h1⟩ := cell_ok ns hn k
  obtain ⟨mo, _, h2⟩ := drawn_ok c k
  have h3 := fdvN mo 64 (by decide)
  obtain ⟨ks, K, h4⟩ := some_ok (mo / 64)
  obtain ⟨m1, _, h5⟩ := drawn_ok mo 1
  have h7 : F__law_rules [.list (ks.map PyData.str)] = .ok (.list ((allR ks).map Rl.D)) := by
    have e := law_rules_ok ks K.sub (by have := K.len; omega)
    rw [allD_map] at e
    exact e
  obtain ⟨bs, h6, hl, hb⟩ := law_bills_ok _ (allR ks) (fun r hr => (allR_mem K hr).1) (allR_ne K) (by have := allR_len K; omega) h7 m1
  have hd : ∀ r ∈ dueR ks bs, r.ok := fun r hr => due_ok K hr
  have hdl := due_len K bs
  have nk := need_kinds_ok K
  have nb := need_bills_ok bs hb hl
  have fi := fitting_ok K bs
  have h9 := rules_for_ev _ _ _ nk nb fi
  have h10 := ne_self (shp_rls (dueR ks bs))
  have h11 := kinds_for_ok K bs hb hl
  have h13 := ne_self (shp_flatL _ (okFl_kinds (ks.filter (kf ks bs)) fun k hk => K.sub k (List.mem_filter.mp hk).1))
  obtain ⟨y7, y9, h15⟩ := l4_loop K bs hb hl (.list (ns.map PyData.int)) (.int (k : Nat)) (.list (ks.map PyData.str)) mo x7 x8 x9 x10 x11 x12 x13 x14 x15
  have h19 : dMod (.int mo) (.int 21) = .ok (.int (mo % 21)) := dMod_i (by decide)
  obtain ⟨m2, hm2⟩ : ∃ m2 : Nat, mo % 21 = (m2 : Int) := ⟨(mo % 21).toNat, by omega⟩
  rw [hm2] at h19
  obtain ⟨y13, h20⟩ := l8_loop K bs hb hl (.list (ns.map PyData.int)) (.int (k : Nat)) (.int mo) (.list ((allR ks).map Rl.D)) (.list ((dueR ks bs).map Rl.D)) (.list ((dueR ks bs).map rowD)) [0, 1, 2, 20, m2] (by
    intro m hm
    simp only [List.mem_cons, List.not_mem_nil, or_false] at hm
    omega) y7 x8 y9 x12 x13 x14 x15
  have e22 := eqE (shp_rls (dueR ks bs))
  have hie : ((dueR ks bs).map Rl.D).isEmpty = (dueR ks bs).isEmpty := by cases dueR ks bs <;> rfl
  rw [hie] at e22
  have hne := nl_rls (dueR ks bs)
  cases he : (dueR ks bs).isEmpty with
  | true =>
    rw [he] at e22 hne
    exact ⟨_, _, _, _, _, _, _, _, _, _, _, _, _, _, l11_no _ k c mo _ m1 _ _ _ _ _ _ _ _ x2 x3 x4 x5 x6 x7 x8 x9 x10 x11 x12 x13 x14 x15 y7 y9 y13 h1 h2 h3 h4 h5 h6 h7 (c1 _ _ _ _ _ _ _ _ _ _ _ _ _ _ K bs hb) h9 h10 h11 (c3 _ _ _ _ _ _ _ _ _ _ _ _ _ _ K bs) h13 (by kernel_rfl) h15 (c5 _ _ _ _ _ _ _ _ _ _ _ _ _ _ _ _ hd) (by kernel_rfl) (c7 _ _ _ _ _ _ _ _ _ _ _ _ _ _ _ (by omega)) h19 h20 (sure_no _ _ _ nk nb fi e22) e22 (sett_no _ _ _ nk nb fi hne)⟩
  | false =>
    rw [he] at e22 hne
    have hs := sure_ok K bs hb hl he
    have hst := sett_ev _ _ _ _ _ nk nb fi hne hs (in_sure _)
    rw [sett_rows he] at hst
    refine ⟨_, _, _, _, _, _, _, _, _, _, _, _, _, _, l11_yes _ k c mo _ m1 _ _ _ _ _ _ _ _ _ _ _ _ x2 x3 x4 x5 x6 x7 x8 x9 x10 x11 x12 x13 x14 x15 y7 y9 y13 h1 h2 h3 h4 h5 h6 h7 (c1 _ _ _ _ _ _ _ _ _ _ _ _ _ _ K bs hb) h9 h10 h11 (c3 _ _ _ _ _ _ _ _ _ _ _ _ _ _ K bs) h13 (by kernel_rfl) h15 (c5 _ _ _ _ _ _ _ _ _ _ _ _ _ _ _ _ hd) (by kernel_rfl) (c7 _ _ _ _ _ _ _ _ _ _ _ _ _ _ _ (by omega)) h19 h20 hs e22 (c9 _ _ _ _ _ _ _ _ _ _ _ _ _ _ _ _) (ne_self (shp_flatL _ (okFl_sure _))) hst (c10 _ _ _ _ _ _ _ _ _ _ _ _ _ _ _ _) (lenset_rows _ (by omega)) ?_⟩
    rw [Bool.eq_iff_iff, beq_iff_eq, beq_iff_eq]
    omega
theorem law_ev (ns : List Int) (n : Nat) (ρ' : SE) (hl : rg1K [.int (if (if ((ns.map PyData.int).length : Int) < 3 then ((ns.map PyData.int).length : Int) else 3) > 1 then (if ((ns.map PyData.int).length : Int) < 3 then ((ns.map PyData.int).length : Int) else 3) else 1)] = .ok (rgD 0 n))
    (e : forL (.nm 1) L_law_11 (rgD 0 n) [.fz (.list (ns.map PyData.int)), .no, .no, .no, .no, .no, .no, .no, .no, .no, .no, .no, .no, .no, .no, .no] = .ok (.nx ρ')) : F_law [.list (ns.map PyData.int)] = .ok (.bool true) := by
  simp only [F_law, b_law, seq_a, seq_nx, seq_rt, seq_ct, seq_bk, seq_err, if_a, if_t, if_f, asg_a, asg_k, own_a, own_k, lc_a, lc_k, ex_a, ex_k, rt_a, rt_k, op_a, op_k, op_k2, un_a, cons_a, cons_k, cons_k2, nil_a, c_a, tup_a, tup_k, lst_a, lst_k, bl_a, bl_k, eif_a, eif_t, eif_f, nt_a, nt_k, an_a, an_t, an_f, or_a, or_t, or_f, van_a, van_t, van_f, vor_a, vor_t, vor_f, vnt_a, vnt_k, ch_a, ch_ka, ch_kb, ch_t, ch_f, ch_k2, par_a, par_k, tg_a, tg_k, nx_k, b_nm, b_pr, b_tr, tr_k, e_nm, e_pr, for_a, for_k, call_a, any_a, items_l, items_t, idx_a, idx_k, idx_k2, no_a, some_a, some_k, sl_a, sl_k, sl_k1, sl_k2, get_a, get_k, get_k1, get_k2, run_a, run_rt, run_ro, run_nx, runo_a, runo_k, next_a, err_a, v0, v1, kD_ok, kD_err, vw_nil, th_nil, frz_nil, unS_fz, unS_no, unS_ow, List.map_cons, List.map_nil, List.set_cons_zero, List.set_cons_succ, startD, List.replicate, List.cons_append, List.nil_append, List.length_cons, List.length_nil, Nat.reduceAdd, Nat.reduceSub, dAdd_i, dSub_i, dOrd_i, bMin2_i, bMax2_i, tx0, tx1, tx2, tx3, lx0, lx1, comp_a, comp_k, comp_nil, comp_cons, comp_k1, comp_t, comp_f, comp_k3, comp_tt, pure_ok, wipe_nil, wipe_cons, en_a, en_k, enF_nil, enF_cons, zp_a, zp_l, zp_t, zpF_cons, zpF_nil, rg1_a, rg2_a, len_t, len_l, tuple_l, isi_ii, isi_bi, isi_tt, isi_ll, isi_ss, sl1, Bool.not_true, Bool.not_false, app_b, app_l, tix_a, tix_l, reto_a, reto_l, List.getElem?_cons_zero, List.getElem?_cons_succ, paro_a, paro_k, neg_i, rev_l, cut_l, told_a, told_ok, told_err, zp_m, compx_a, compx_k, tx_a, tx_k, hl, e]
theorem law_true (ns : List Int) (hn : ns.length ≤ 63) : F_law [.list (ns.map PyData.int)] = .ok (.bool true) := by
  obtain ⟨n, hn1, hn2⟩ : ∃ n : Nat, (if (if ((ns.map PyData.int).length : Int) < 3 then ((ns.map PyData.int).length : Int) else 3) > 1 then (if ((ns.map PyData.int).length : Int) < 3 then ((ns.map PyData.int).length : Int) else 3) else 1) = (n : Int) ∧ n ≤ 4 := by
    generalize ((ns.map PyData.int).length) = L
    by_cases h1 : (L : Int) < 3
    · rw [if_pos h1]
      by_cases h2 : (L : Int) > 1
      · rw [if_pos h2]
        exact ⟨L, rfl, by omega⟩
      · rw [if_neg h2]
        exact ⟨1, rfl, by omega⟩
    · rw [if_neg h1, if_pos (by decide)]
      exact ⟨3, rfl, by omega⟩
  obtain ⟨ρ', k1, _⟩ := forL_inv (p := .nm 1) (body := L_law_11) (fun i ρ => ∃ y1 y2 y3 y4 y5 y6 y7 y8 y9 y10 y11 y12 y13 y14 y15, ρ = [.fz (.list (ns.map PyData.int)), y1, y2, y3, y4, y5, y6, y7, y8, y9, y10, y11, y12, y13, y14, y15]) (rgD 0 n) 0 [.fz (.list (ns.map PyData.int)), .no, .no, .no, .no, .no, .no, .no, .no, .no, .no, .no, .no, .no, .no, .no] ⟨.no, .no, .no, .no, .no, .no, .no, .no, .no, .no, .no, .no, .no, .no, .no, rfl⟩ (by
    rintro i d ρ hd ⟨y1, y2, y3, y4, y5, y6, y7, y8, y9, y10, y11, y12, y13, y14, y15, rfl⟩
    obtain ⟨hi, rfl⟩ := rg_at hd
    have e0 : (0 + (i : Int)) = ((i : Nat) : Int) := by omega
    obtain ⟨z2, z3, z4, z5, z6, z7, z8, z9, z10, z11, z12, z13, z14, z15, e⟩ := l11_ok ns hn i y2 y3 y4 y5 y6 y7 y8 y9 y10 y11 y12 y13 y14 y15
    refine ⟨_, _, rfl, .inl ?_, .fz (.int (i : Int)), z2, z3, z4, z5, z6, z7, z8, z9, z10, z11, z12, z13, z14, z15, rfl⟩
    show L_law_11 [.fz (.list (ns.map PyData.int)), .fz (.int (0 + (i : Int))), y2, y3, y4, y5, y6, y7, y8, y9, y10, y11, y12, y13, y14, y15] = _
    rw [e0]
    exact e)
  exact law_ev ns n ρ' (rg1_k hn1 (by omega)) k1
end DL.K30
set_option Elab.async false
set_option linter.all false
set_option maxRecDepth 100000
set_option maxHeartbeats 0
namespace DL.K30
open PySem PySem.Spec PyProof.Rows L2 RZ DL

def d__law_drawn : He.DefD := ⟨("_law_drawn", none), "_law_drawn", "_law_drawn", defArgs (top 35), defBody (top 35), defScope (top 35), [], []⟩
def d__law_kinds : He.DefD := ⟨("_law_kinds", none), "_law_kinds", "_law_kinds", defArgs (top 39), defBody (top 39), defScope (top 39), [], []⟩
def d__law_some : He.DefD := ⟨("_law_some", none), "_law_some", "_law_some", defArgs (top 43), defBody (top 43), defScope (top 43), [], []⟩
def d__law_bounds : He.DefD := ⟨("_law_bounds", none), "_law_bounds", "_law_bounds", defArgs (top 38), defBody (top 38), defScope (top 38), [], []⟩
def d__law_rules : He.DefD := ⟨("_law_rules", none), "_law_rules", "_law_rules", defArgs (top 42), defBody (top 42), defScope (top 42), [], []⟩
def d__law_cost : He.DefD := ⟨("_law_cost", none), "_law_cost", "_law_cost", defArgs (top 40), defBody (top 40), defScope (top 40), [], []⟩
def d__law_bills : He.DefD := ⟨("_law_bills", none), "_law_bills", "_law_bills", defArgs (top 44), defBody (top 44), defScope (top 44), [], []⟩
def d__law_word : He.DefD := ⟨("_law_word", none), "_law_word", "_law_word", defArgs (top 36), defBody (top 36), defScope (top 36), [], []⟩
def d__law_told : He.DefD := ⟨("_law_told", none), "_law_told", "_law_told", defArgs (top 37), defBody (top 37), defScope (top 37), [], []⟩
def d__law_cell : He.DefD := ⟨("_law_cell", none), "_law_cell", "_law_cell", defArgs (top 34), defBody (top 34), defScope (top 34), [], []⟩
def d_need_kind : He.DefD := ⟨("need_kind", none), "need_kind", "need_kind", defArgs (top 13), defBody (top 13), defScope (top 13), [], []⟩
def d_need_kinds : He.DefD := ⟨("need_kinds", none), "need_kinds", "need_kinds", defArgs (top 19), defBody (top 19), defScope (top 19), [], []⟩
def d_is_count : He.DefD := ⟨("is_count", none), "is_count", "is_count", defArgs (top 12), defBody (top 12), defScope (top 12), [], []⟩
def d_is_bill : He.DefD := ⟨("is_bill", none), "is_bill", "is_bill", defArgs (top 23), defBody (top 23), defScope (top 23), [], []⟩
def d_need_bills : He.DefD := ⟨("need_bills", none), "need_bills", "need_bills", defArgs (top 24), defBody (top 24), defScope (top 24), [], []⟩
def d_rules_of : He.DefD := ⟨("rules_of", none), "rules_of", "rules_of", defArgs (top 17), defBody (top 17), defScope (top 17), [], []⟩
def d_all_rules : He.DefD := ⟨("all_rules", none), "all_rules", "all_rules", defArgs (top 18), defBody (top 18), defScope (top 18), [], []⟩
def d_price : He.DefD := ⟨("price", none), "price", "price", defArgs (top 16), defBody (top 16), defScope (top 16), [], []⟩
def d_is_fit : He.DefD := ⟨("is_fit", none), "is_fit", "is_fit", defArgs (top 25), defBody (top 25), defScope (top 25), [], []⟩
def d_fitting : He.DefD := ⟨("fitting", none), "fitting", "fitting", defArgs (top 27), defBody (top 27), defScope (top 27), [], []⟩
def d_rules_for : He.DefD := ⟨("rules_for", none), "rules_for", "rules_for", defArgs (top 28), defBody (top 28), defScope (top 28), [], []⟩
def d_kinds_for : He.DefD := ⟨("kinds_for", none), "kinds_for", "kinds_for", defArgs (top 29), defBody (top 29), defScope (top 29), [], []⟩
def d__law_row : He.DefD := ⟨("_law_row", none), "_law_row", "_law_row", defArgs (top 41), defBody (top 41), defScope (top 41), [], []⟩
def d__law_fits : He.DefD := ⟨("_law_fits", none), "_law_fits", "_law_fits", defArgs (top 45), defBody (top 45), defScope (top 45), [], []⟩
def d_is_rule : He.DefD := ⟨("is_rule", none), "is_rule", "is_rule", defArgs (top 14), defBody (top 14), defScope (top 14), [], []⟩
def d_need_rule : He.DefD := ⟨("need_rule", none), "need_rule", "need_rule", defArgs (top 15), defBody (top 15), defScope (top 15), [], []⟩
def d_fits : He.DefD := ⟨("fits", none), "fits", "fits", defArgs (top 26), defBody (top 26), defScope (top 26), [], []⟩
def d_costs : He.DefD := ⟨("costs", none), "costs", "costs", defArgs (top 30), defBody (top 30), defScope (top 30), [], []⟩
def d_sure : He.DefD := ⟨("sure", none), "sure", "sure", defArgs (top 31), defBody (top 31), defScope (top 31), [], []⟩
def d_is_settled : He.DefD := ⟨("is_settled", none), "is_settled", "is_settled", defArgs (top 32), defBody (top 32), defScope (top 32), [], []⟩
def d_law : He.DefD := ⟨("law", none), "law", "law", defArgs (top 46), defBody (top 46), defScope (top 46), [], []⟩
def fn : List He.DefD := [d__law_drawn, d__law_kinds, d__law_some, d__law_bounds, d__law_rules, d__law_cost, d__law_bills, d__law_word, d__law_told, d__law_cell, d_need_kind, d_need_kinds, d_is_count, d_is_bill, d_need_bills, d_rules_of, d_all_rules, d_price, d_is_fit, d_fitting, d_rules_for, d_kinds_for, d__law_row, d__law_fits, d_is_rule, d_need_rule, d_fits, d_costs, d_sure, d_is_settled, d_law]
def fa : List He.Fa := [.free "isinstance", .free "int", .free "bool", .free "str", .free "tuple", .free "len", .free "all", .free "zip", .free "min", .free "max", .free "range", .free "list", .free "set", .free "sorted", .free "sum", .free "ValueError", .free "enumerate", .glo "_law_drawn", .glo "_law_kinds", .glo "_law_some", .glo "_law_bounds", .glo "_law_rules", .glo "_law_cost", .glo "_law_bills", .glo "_law_word", .glo "_law_told", .glo "_law_cell", .glo "need_kind", .glo "need_kinds", .glo "is_count", .glo "is_bill", .glo "need_bills", .glo "rules_of", .glo "all_rules", .glo "price", .glo "is_fit", .glo "fitting", .glo "rules_for", .glo "kinds_for", .glo "_law_row", .glo "_law_fits", .glo "is_rule", .glo "need_rule", .glo "fits", .glo "costs", .glo "sure", .glo "is_settled", .glo "law", .glo "BadRule", .glo "BadBill", .glo "NoRule", .glo "BadText", .exc "BadRule", .exc "BadBill", .exc "NoRule", .exc "BadText", .glo "BOUNDS", .glo "BillError"]
def tsT : List He.Tab := [(fun K => He.ga K "BOUNDS", ["flat", "each", "base", "from", "packs", "gift", "least", "most", "off"])]
def exB (K : PySem.W.Frag) : Bool := (noLists K && (conD K "MOST_MANY" c_MOST_MANY && (conD K "COST" c_COST && (conD K "COUNT" c_COUNT && (conD K "KINDS" c_KINDS && (conD K "MOST_BILLS" c_MOST_BILLS && (conD K "MOST_COST" c_MOST_COST && (tabD K (He.ga K "BOUNDS") t_BOUNDS && (wordB K (gd K).cl (He.ga K "BillError") prL && decide ((((gd K).T).map fun p => p.1).Nodup))))))))))
def tf : List He.Defn := lamD.map fun x => (x, none)
def loose0 : List Str := ["__name__", "BillError", "BadRule", "BadBill", "NoRule", "BadText", "MOST_MANY", "COST", "COUNT", "BOUNDS", "KINDS", "is_count", "need_kind", "is_rule", "need_rule", "price", "rules_of", "all_rules", "need_kinds", "MOST_BILLS", "MOST_COST", "is_bill", "need_bills", "is_fit", "fits", "fitting", "rules_for", "kinds_for", "costs", "sure"]
def loose1 : List Str := ["is_settled", "_law_cell", "_law_drawn", "_law_word", "_law_told", "_law_bounds", "_law_kinds", "_law_cost", "_law_row", "_law_rules", "_law_some", "_law_bills", "_law_fits"]
def looseA : List Str := loose0 ++ loose1
abbrev RwH : PySem.W.OpenRow := PySem.W.OpenLaw.row PySem.Challenge.rw_billrules_k30_whole_fits
abbrev hk : PySem.W.Hook := He.hookX 5 fa fn tsT tf exB
def ob (s : PySem.W.SharedT) : He.AlX := He.obsX 5 fa fn tsT tf exB (HandSHeadRun.getT s)
theorem ob_eq (s : PySem.W.SharedT) : ob s = hk.obs s.abs := He.obsX_eq (HandSHeadRun.getT_eq s)
theorem run (w : World) : HandSHeadRun.RunEq RwH (PySem.W.view RwH.prog [46]) hk ob 4000 looseA w :=
  PySem.W.byRow2 (P := fun w => HandSHeadRun.RunEq RwH (PySem.W.view RwH.prog [46]) hk ob 4000 looseA w) "special-get-raises" (fun w => by intro os; kernel_rfl) (fun w => by intro os; kernel_rfl) w
theorem facts {w : World} {K : PySem.W.Frag} {h : Heap} {mg : Str → Option Value} (X : K.In h) (N : h.Ns mainGlobals mg) (c : He.SaysX fa fn tsT tf exB w h K) : Fc K w mg ∧ noLists K = true := by
  have m := c.more
  unfold exB at m
  obtain ⟨h0, m⟩ := He.ba m
  obtain ⟨h1, m⟩ := He.ba m
  obtain ⟨h2, m⟩ := He.ba m
  obtain ⟨h3, m⟩ := He.ba m
  obtain ⟨h4, m⟩ := He.ba m
  obtain ⟨h5, m⟩ := He.ba m
  obtain ⟨h6, m⟩ := He.ba m
  obtain ⟨h7, m⟩ := He.ba m
  obtain ⟨h8, m⟩ := He.ba m
  obtain ⟨w1, w2, w3, w4⟩ := wordB_ok h8
  exact ⟨⟨He.free_ok X N (c.t.d.fact 0 (f := .free "isinstance") rfl),
    He.free_ok X N (c.t.d.fact 1 (f := .free "int") rfl),
    He.free_ok X N (c.t.d.fact 2 (f := .free "bool") rfl),
    He.free_ok X N (c.t.d.fact 3 (f := .free "str") rfl),
    He.free_ok X N (c.t.d.fact 4 (f := .free "tuple") rfl),
    He.free_ok X N (c.t.d.fact 5 (f := .free "len") rfl),
    He.free_ok X N (c.t.d.fact 6 (f := .free "all") rfl),
    He.free_ok X N (c.t.d.fact 7 (f := .free "zip") rfl),
    He.free_ok X N (c.t.d.fact 8 (f := .free "min") rfl),
    He.free_ok X N (c.t.d.fact 9 (f := .free "max") rfl),
    He.free_ok X N (c.t.d.fact 10 (f := .free "range") rfl),
    He.free_ok X N (c.t.d.fact 11 (f := .free "list") rfl),
    He.free_ok X N (c.t.d.fact 12 (f := .free "set") rfl),
    He.free_ok X N (c.t.d.fact 13 (f := .free "sorted") rfl),
    He.free_ok X N (c.t.d.fact 14 (f := .free "sum") rfl),
    He.free_ok X N (c.t.d.fact 15 (f := .free "ValueError") rfl),
    He.free_ok X N (c.t.d.fact 16 (f := .free "enumerate") rfl),
    conD_ok X N h1,
    conD_ok X N h2,
    conD_ok X N h3,
    conD_ok X N h4,
    conD_ok X N h5,
    conD_ok X N h6,
    (c.t.tab 0 (t := (fun K => He.ga K "BOUNDS", ["flat", "each", "base", "from", "packs", "gift", "least", "most", "off"])) rfl).elim fun en q => q.elim fun n D => ⟨_, en, n, He.glo_ok X N (c.t.d.fact 56 (f := .glo "BOUNDS") rfl), D, h7⟩,
    ⟨He.glo_ok X N (c.t.d.fact 48 (f := .glo "BadRule") rfl), (He.exc_ok (c.t.d.fact 52 (f := .exc "BadRule") rfl)).1, (He.exc_ok (c.t.d.fact 52 (f := .exc "BadRule") rfl)).2.1, (He.exc_ok (c.t.d.fact 52 (f := .exc "BadRule") rfl)).2.2.1, (He.exc_ok (c.t.d.fact 52 (f := .exc "BadRule") rfl)).2.2.2⟩,
    ⟨He.glo_ok X N (c.t.d.fact 49 (f := .glo "BadBill") rfl), (He.exc_ok (c.t.d.fact 53 (f := .exc "BadBill") rfl)).1, (He.exc_ok (c.t.d.fact 53 (f := .exc "BadBill") rfl)).2.1, (He.exc_ok (c.t.d.fact 53 (f := .exc "BadBill") rfl)).2.2.1, (He.exc_ok (c.t.d.fact 53 (f := .exc "BadBill") rfl)).2.2.2⟩,
    ⟨He.glo_ok X N (c.t.d.fact 50 (f := .glo "NoRule") rfl), (He.exc_ok (c.t.d.fact 54 (f := .exc "NoRule") rfl)).1, (He.exc_ok (c.t.d.fact 54 (f := .exc "NoRule") rfl)).2.1, (He.exc_ok (c.t.d.fact 54 (f := .exc "NoRule") rfl)).2.2.1, (He.exc_ok (c.t.d.fact 54 (f := .exc "NoRule") rfl)).2.2.2⟩,
    ⟨He.glo_ok X N (c.t.d.fact 51 (f := .glo "BadText") rfl), (He.exc_ok (c.t.d.fact 55 (f := .exc "BadText") rfl)).1, (He.exc_ok (c.t.d.fact 55 (f := .exc "BadText") rfl)).2.1, (He.exc_ok (c.t.d.fact 55 (f := .exc "BadText") rfl)).2.2.1, (He.exc_ok (c.t.d.fact 55 (f := .exc "BadText") rfl)).2.2.2⟩,
    ⟨He.free_ok X N (c.t.d.fact 0 (f := .free "isinstance") rfl), He.free_ok X N (c.t.d.fact 14 (f := .free "sum") rfl), He.free_ok X N (c.t.d.fact 1 (f := .free "int") rfl), He.free_ok X N (c.t.d.fact 15 (f := .free "ValueError") rfl), w1, w4, w2⟩,
    He.glo_ok X N (c.t.d.fact 57 (f := .glo "BillError") rfl),
    w3,
    of_decide_eq_true m⟩, h0⟩
theorem lawOk {w : World} {K : PySem.W.Frag} {h : Heap} {mg : Str → Option Value} (X : K.In h) (N : h.Ns mainGlobals mg) (c : He.SaysX fa fn tsT tf exB w h K) : ∃ fd, mg "law" = some (.ref (He.ga K "law")) ∧ (∀ (s : Shared) (u : Value), BindsTo s fd ⟨[u], []⟩ [("_law_script", u)]) ∧ ∀ base : Heap, (∀ p ∈ tf.map (He.cT K), LamX.TabB base mg p.1 p.2) → OkF PySem.Challenge.pw_billrules_k30_whole_fits w K mg base (gd K) "law" 7 1 ["_law_script"] (He.ga K "law") fd F_law := by
  obtain ⟨Fx, _⟩ := facts X N c
  obtain ⟨fd__law_drawn, fu__law_drawn⟩ := c.t.d.def_ 0 (d := d__law_drawn) rfl
  have df__law_drawn : DefF K mg "_law_drawn" (top 35) (He.ga K "_law_drawn") fd__law_drawn := ⟨He.glo_ok X N (c.t.d.fact 17 (f := .glo "_law_drawn") rfl), fu__law_drawn⟩
  obtain ⟨fd__law_kinds, fu__law_kinds⟩ := c.t.d.def_ 1 (d := d__law_kinds) rfl
  have df__law_kinds : DefF K mg "_law_kinds" (top 39) (He.ga K "_law_kinds") fd__law_kinds := ⟨He.glo_ok X N (c.t.d.fact 18 (f := .glo "_law_kinds") rfl), fu__law_kinds⟩
  obtain ⟨fd__law_some, fu__law_some⟩ := c.t.d.def_ 2 (d := d__law_some) rfl
  have df__law_some : DefF K mg "_law_some" (top 43) (He.ga K "_law_some") fd__law_some := ⟨He.glo_ok X N (c.t.d.fact 19 (f := .glo "_law_some") rfl), fu__law_some⟩
  obtain ⟨fd__law_bounds, fu__law_bounds⟩ := c.t.d.def_ 3 (d := d__law_bounds) rfl
  have df__law_bounds : DefF K mg "_law_bounds" (top 38) (He.ga K "_law_bounds") fd__law_bounds := ⟨He.glo_ok X N (c.t.d.fact 20 (f := .glo "_law_bounds") rfl), fu__law_bounds⟩
  obtain ⟨fd__law_rules, fu__law_rules⟩ := c.t.d.def_ 4 (d := d__law_rules) rfl
  have df__law_rules : DefF K mg "_law_rules" (top 42) (He.ga K "_law_rules") fd__law_rules := ⟨He.glo_ok X N (c.t.d.fact 21 (f := .glo "_law_rules") rfl), fu__law_rules⟩
  obtain ⟨fd__law_cost, fu__law_cost⟩ := c.t.d.def_ 5 (d := d__law_cost) rfl
  have df__law_cost : DefF K mg "_law_cost" (top 40) (He.ga K "_law_cost") fd__law_cost := ⟨He.glo_ok X N (c.t.d.fact 22 (f := .glo "_law_cost") rfl), fu__law_cost⟩
  obtain ⟨fd__law_bills, fu__law_bills⟩ := c.t.d.def_ 6 (d := d__law_bills) rfl
  have df__law_bills : DefF K mg "_law_bills" (top 44) (He.ga K "_law_bills") fd__law_bills := ⟨He.glo_ok X N (c.t.d.fact 23 (f := .glo "_law_bills") rfl), fu__law_bills⟩
  obtain ⟨fd__law_word, fu__law_word⟩ := c.t.d.def_ 7 (d := d__law_word) rfl
  have df__law_word : DefF K mg "_law_word" (top 36) (He.ga K "_law_word") fd__law_word := ⟨He.glo_ok X N (c.t.d.fact 24 (f := .glo "_law_word") rfl), fu__law_word⟩
  obtain ⟨fd__law_told, fu__law_told⟩ := c.t.d.def_ 8 (d := d__law_told) rfl
  have df__law_told : DefF K mg "_law_told" (top 37) (He.ga K "_law_told") fd__law_told := ⟨He.glo_ok X N (c.t.d.fact 25 (f := .glo "_law_told") rfl), fu__law_told⟩
  obtain ⟨fd__law_cell, fu__law_cell⟩ := c.t.d.def_ 9 (d := d__law_cell) rfl
  have df__law_cell : DefF K mg "_law_cell" (top 34) (He.ga K "_law_cell") fd__law_cell := ⟨He.glo_ok X N (c.t.d.fact 26 (f := .glo "_law_cell") rfl), fu__law_cell⟩
  obtain ⟨fd_need_kind, fu_need_kind⟩ := c.t.d.def_ 10 (d := d_need_kind) rfl
  have df_need_kind : DefF K mg "need_kind" (top 13) (He.ga K "need_kind") fd_need_kind := ⟨He.glo_ok X N (c.t.d.fact 27 (f := .glo "need_kind") rfl), fu_need_kind⟩
  obtain ⟨fd_need_kinds, fu_need_kinds⟩ := c.t.d.def_ 11 (d := d_need_kinds) rfl
  have df_need_kinds : DefF K mg "need_kinds" (top 19) (He.ga K "need_kinds") fd_need_kinds := ⟨He.glo_ok X N (c.t.d.fact 28 (f := .glo "need_kinds") rfl), fu_need_kinds⟩
  obtain ⟨fd_is_count, fu_is_count⟩ := c.t.d.def_ 12 (d := d_is_count) rfl
  have df_is_count : DefF K mg "is_count" (top 12) (He.ga K "is_count") fd_is_count := ⟨He.glo_ok X N (c.t.d.fact 29 (f := .glo "is_count") rfl), fu_is_count⟩
  obtain ⟨fd_is_bill, fu_is_bill⟩ := c.t.d.def_ 13 (d := d_is_bill) rfl
  have df_is_bill : DefF K mg "is_bill" (top 23) (He.ga K "is_bill") fd_is_bill := ⟨He.glo_ok X N (c.t.d.fact 30 (f := .glo "is_bill") rfl), fu_is_bill⟩
  obtain ⟨fd_need_bills, fu_need_bills⟩ := c.t.d.def_ 14 (d := d_need_bills) rfl
  have df_need_bills : DefF K mg "need_bills" (top 24) (He.ga K "need_bills") fd_need_bills := ⟨He.glo_ok X N (c.t.d.fact 31 (f := .glo "need_bills") rfl), fu_need_bills⟩
  obtain ⟨fd_rules_of, fu_rules_of⟩ := c.t.d.def_ 15 (d := d_rules_of) rfl
  have df_rules_of : DefF K mg "rules_of" (top 17) (He.ga K "rules_of") fd_rules_of := ⟨He.glo_ok X N (c.t.d.fact 32 (f := .glo "rules_of") rfl), fu_rules_of⟩
  obtain ⟨fd_all_rules, fu_all_rules⟩ := c.t.d.def_ 16 (d := d_all_rules) rfl
  have df_all_rules : DefF K mg "all_rules" (top 18) (He.ga K "all_rules") fd_all_rules := ⟨He.glo_ok X N (c.t.d.fact 33 (f := .glo "all_rules") rfl), fu_all_rules⟩
  obtain ⟨fd_price, fu_price⟩ := c.t.d.def_ 17 (d := d_price) rfl
  have df_price : DefF K mg "price" (top 16) (He.ga K "price") fd_price := ⟨He.glo_ok X N (c.t.d.fact 34 (f := .glo "price") rfl), fu_price⟩
  obtain ⟨fd_is_fit, fu_is_fit⟩ := c.t.d.def_ 18 (d := d_is_fit) rfl
  have df_is_fit : DefF K mg "is_fit" (top 25) (He.ga K "is_fit") fd_is_fit := ⟨He.glo_ok X N (c.t.d.fact 35 (f := .glo "is_fit") rfl), fu_is_fit⟩
  obtain ⟨fd_fitting, fu_fitting⟩ := c.t.d.def_ 19 (d := d_fitting) rfl
  have df_fitting : DefF K mg "fitting" (top 27) (He.ga K "fitting") fd_fitting := ⟨He.glo_ok X N (c.t.d.fact 36 (f := .glo "fitting") rfl), fu_fitting⟩
  obtain ⟨fd_rules_for, fu_rules_for⟩ := c.t.d.def_ 20 (d := d_rules_for) rfl
  have df_rules_for : DefF K mg "rules_for" (top 28) (He.ga K "rules_for") fd_rules_for := ⟨He.glo_ok X N (c.t.d.fact 37 (f := .glo "rules_for") rfl), fu_rules_for⟩
  obtain ⟨fd_kinds_for, fu_kinds_for⟩ := c.t.d.def_ 21 (d := d_kinds_for) rfl
  have df_kinds_for : DefF K mg "kinds_for" (top 29) (He.ga K "kinds_for") fd_kinds_for := ⟨He.glo_ok X N (c.t.d.fact 38 (f := .glo "kinds_for") rfl), fu_kinds_for⟩
  obtain ⟨fd__law_row, fu__law_row⟩ := c.t.d.def_ 22 (d := d__law_row) rfl
  have df__law_row : DefF K mg "_law_row" (top 41) (He.ga K "_law_row") fd__law_row := ⟨He.glo_ok X N (c.t.d.fact 39 (f := .glo "_law_row") rfl), fu__law_row⟩
  obtain ⟨fd__law_fits, fu__law_fits⟩ := c.t.d.def_ 23 (d := d__law_fits) rfl
  have df__law_fits : DefF K mg "_law_fits" (top 45) (He.ga K "_law_fits") fd__law_fits := ⟨He.glo_ok X N (c.t.d.fact 40 (f := .glo "_law_fits") rfl), fu__law_fits⟩
  obtain ⟨fd_is_rule, fu_is_rule⟩ := c.t.d.def_ 24 (d := d_is_rule) rfl
  have df_is_rule : DefF K mg "is_rule" (top 14) (He.ga K "is_rule") fd_is_rule := ⟨He.glo_ok X N (c.t.d.fact 41 (f := .glo "is_rule") rfl), fu_is_rule⟩
  obtain ⟨fd_need_rule, fu_need_rule⟩ := c.t.d.def_ 25 (d := d_need_rule) rfl
  have df_need_rule : DefF K mg "need_rule" (top 15) (He.ga K "need_rule") fd_need_rule := ⟨He.glo_ok X N (c.t.d.fact 42 (f := .glo "need_rule") rfl), fu_need_rule⟩
  obtain ⟨fd_fits, fu_fits⟩ := c.t.d.def_ 26 (d := d_fits) rfl
  have df_fits : DefF K mg "fits" (top 26) (He.ga K "fits") fd_fits := ⟨He.glo_ok X N (c.t.d.fact 43 (f := .glo "fits") rfl), fu_fits⟩
  obtain ⟨fd_costs, fu_costs⟩ := c.t.d.def_ 27 (d := d_costs) rfl
  have df_costs : DefF K mg "costs" (top 30) (He.ga K "costs") fd_costs := ⟨He.glo_ok X N (c.t.d.fact 44 (f := .glo "costs") rfl), fu_costs⟩
  obtain ⟨fd_sure, fu_sure⟩ := c.t.d.def_ 28 (d := d_sure) rfl
  have df_sure : DefF K mg "sure" (top 31) (He.ga K "sure") fd_sure := ⟨He.glo_ok X N (c.t.d.fact 45 (f := .glo "sure") rfl), fu_sure⟩
  obtain ⟨fd_is_settled, fu_is_settled⟩ := c.t.d.def_ 29 (d := d_is_settled) rfl
  have df_is_settled : DefF K mg "is_settled" (top 32) (He.ga K "is_settled") fd_is_settled := ⟨He.glo_ok X N (c.t.d.fact 46 (f := .glo "is_settled") rfl), fu_is_settled⟩
  obtain ⟨fd_law, fu_law⟩ := c.t.d.def_ 30 (d := d_law) rfl
  have df_law : DefF K mg "law" (top 46) (He.ga K "law") fd_law := ⟨He.glo_ok X N (c.t.d.fact 47 (f := .glo "law") rfl), fu_law⟩
  refine ⟨fd_law, df_law.g, fun s u => FunD.bindsA (ps := ["_law_script"]) df_law.d (fun _ _ _ _ _ _ us hl => match us, hl with | [_], _ => rfl) s [u] rfl, fun base hTb => ?_⟩
  have o__law_drawn := ok__law_drawn (P := PySem.Challenge.pw_billrules_k30_whole_fits) (base := base) Fx df__law_drawn
  have o__law_kinds := ok__law_kinds (P := PySem.Challenge.pw_billrules_k30_whole_fits) (base := base) Fx df__law_kinds
  have o__law_some := ok__law_some (P := PySem.Challenge.pw_billrules_k30_whole_fits) (base := base) Fx df__law_some o__law_kinds o__law_drawn
  have o__law_bounds := ok__law_bounds (P := PySem.Challenge.pw_billrules_k30_whole_fits) (base := base) Fx df__law_bounds
  have o__law_rules := ok__law_rules (P := PySem.Challenge.pw_billrules_k30_whole_fits) (base := base) Fx df__law_rules o__law_bounds
  have o__law_cost := ok__law_cost (P := PySem.Challenge.pw_billrules_k30_whole_fits) (base := base) Fx df__law_cost
  have o__law_bills := ok__law_bills (P := PySem.Challenge.pw_billrules_k30_whole_fits) (base := base) Fx df__law_bills o__law_rules o__law_drawn o__law_cost
  have o__law_word := ok__law_word (P := PySem.Challenge.pw_billrules_k30_whole_fits) (base := base) Fx df__law_word
  have o__law_told := told_F (P := PySem.Challenge.pw_billrules_k30_whole_fits) (base := base) Fx df__law_told df__law_word o__law_word
  have o__law_cell := ok__law_cell (P := PySem.Challenge.pw_billrules_k30_whole_fits) (base := base) Fx df__law_cell
  have o_need_kind := ok_need_kind (P := PySem.Challenge.pw_billrules_k30_whole_fits) (base := base) Fx df_need_kind
  have o_need_kinds := ok_need_kinds (P := PySem.Challenge.pw_billrules_k30_whole_fits) (base := base) Fx df_need_kinds o_need_kind
  have o_is_count := ok_is_count (P := PySem.Challenge.pw_billrules_k30_whole_fits) (base := base) Fx df_is_count
  have o_is_bill := ok_is_bill (P := PySem.Challenge.pw_billrules_k30_whole_fits) (base := base) Fx df_is_bill o_is_count
  have o_need_bills := ok_need_bills (P := PySem.Challenge.pw_billrules_k30_whole_fits) (base := base) Fx df_need_bills o_is_bill
  have o_rules_of := ok_rules_of (P := PySem.Challenge.pw_billrules_k30_whole_fits) (base := base) Fx df_rules_of
  have o_all_rules := ok_all_rules (P := PySem.Challenge.pw_billrules_k30_whole_fits) (base := base) Fx df_all_rules o_rules_of
  have o_price := ok_price (P := PySem.Challenge.pw_billrules_k30_whole_fits) (base := base) Fx df_price
  have o_is_fit := ok_is_fit (P := PySem.Challenge.pw_billrules_k30_whole_fits) (base := base) Fx df_is_fit o_price
  have o_fitting := ok_fitting (P := PySem.Challenge.pw_billrules_k30_whole_fits) (base := base) Fx df_fitting o_all_rules o_is_fit
  have o_rules_for := ok_rules_for (P := PySem.Challenge.pw_billrules_k30_whole_fits) (base := base) Fx df_rules_for o_need_kinds o_need_bills o_fitting
  have o_kinds_for := ok_kinds_for (P := PySem.Challenge.pw_billrules_k30_whole_fits) (base := base) Fx df_kinds_for o_need_kinds o_need_bills o_fitting
  have o__law_row := ok__law_row (P := PySem.Challenge.pw_billrules_k30_whole_fits) (base := base) Fx df__law_row o__law_cost
  have o__law_fits := ok__law_fits (P := PySem.Challenge.pw_billrules_k30_whole_fits) (base := base) Fx df__law_fits o__law_cost
  have o_is_rule := ok_is_rule (P := PySem.Challenge.pw_billrules_k30_whole_fits) (base := base) Fx df_is_rule o_is_count
  have o_need_rule := ok_need_rule (P := PySem.Challenge.pw_billrules_k30_whole_fits) (base := base) Fx df_need_rule o_is_rule
  have o_fits := ok_fits (P := PySem.Challenge.pw_billrules_k30_whole_fits) (base := base) Fx df_fits o_need_rule o_need_bills o_is_fit
  have o_costs := ok_costs (P := PySem.Challenge.pw_billrules_k30_whole_fits) (base := base) Fx df_costs o_need_kinds o_need_bills o_is_count o_price o_fitting
  have o_sure := ok_sure (P := PySem.Challenge.pw_billrules_k30_whole_fits) (base := base) Fx df_sure o_need_kinds o_need_bills o_fitting o_price
  have o_is_settled := ok_is_settled (P := PySem.Challenge.pw_billrules_k30_whole_fits) (base := base) Fx df_is_settled o_need_kinds o_need_bills o_fitting o_sure
  have o_law := ok_law (P := PySem.Challenge.pw_billrules_k30_whole_fits) (base := base) Fx df_law (hTb (He.cT K ("law", none)) (List.mem_map.mpr ⟨("law", none), List.mem_map.mpr ⟨"law", by decide, rfl⟩, rfl⟩)) o__law_drawn o__law_some o__law_bills o__law_rules o__law_cell o_rules_for o_kinds_for o__law_row o__law_fits o_fits o_costs o_sure o_is_settled o__law_told
  exact o_law
open PySem PySem.W PySem.Calls PyProof.Rows
theorem holds_of (hlaw : ∀ ns : List Int, ns.length ≤ 63 → F_law [.list (ns.map PyData.int)] = .ok (.bool true)) : PySem.Challenge.rw_billrules_k30_whole_fits.Holds := by
  w_on; o_law
  refine HandSHeadRun.head_any (r := OpenLaw.row PySem.Challenge.rw_billrules_k30_whole_fits) (q := view (OpenLaw.row PySem.Challenge.rw_billrules_k30_whole_fits).prog [46]) (H := hk) (ob := ob) (M := 4000) (loose := looseA) (d := HandSHeadRun.topDef (OpenLaw.row PySem.Challenge.rw_billrules_k30_whole_fits).prog 46) (kwd := []) ob_eq
    (by kernel_rfl) (fun s => by kernel_rfl) run (by kernel_rfl) (by kernel_rfl) (by kernel_rfl) (by rfl) (by first | assumption | decide +kernel) (by decide +kernel) ⟨rfl, rfl, rfl, rfl, rfl, by decide +kernel⟩ ?hw ?hc
  case hw => w_witness2
  case hc =>
    refine LamX.walk_ofTsE (l := PySem.Challenge.rw_billrules_k30_whole_fits) (n := 63) (k := 7) (x := "_law_script") (CX := fun w => L2N.CX PySem.Challenge.pw_billrules_k30_whole_fits w) rfl (by decide) (by kernel_rfl) ⟨rfl, by decide, by decide⟩ ?F ?C
    case C =>
      intro w H s e s' z
      obtain ⟨_, _, _, _, _, _, _, _, _, _, _, _, z⟩ := z
      exact z
    case F =>
      intro w mg fa h Y N hmg0
      obtain ⟨K, KX, c⟩ := Y
      have hmg : mg ("law" : PySem.Str) = some (.ref fa) := by
        have e : (HandSHeadRun.topDef (OpenLaw.row PySem.Challenge.rw_billrules_k30_whole_fits).prog 46).name = ("law" : PySem.Str) := by kernel_rfl
        rw [← e]
        exact hmg0
      obtain ⟨fd, hG, hb, hF⟩ := lawOk KX N c
      have e := hmg.symm.trans hG
      cases e
      obtain ⟨_, nl⟩ := facts KX N c
      refine ⟨K, KX, fd, tf.map (He.cT K), spD (gd K) K 1 F_law, (fun p hp => by
        obtain ⟨q, hq, rfl⟩ := List.mem_map.mp hp
        exact c.empty q hq), (fun p hp => by
        obtain ⟨q, hq, rfl⟩ := List.mem_map.mp hp
        exact c.out q hq), (fun p hp => by
        obtain ⟨q, hq, rfl⟩ := List.mem_map.mp hp
        exact PySem.W.codeHd_of_K KX (c.hd q hq)), hb, ?_, fun base _ _ hTb => (hF base hTb).fn⟩
      intro H a ns hn _ hT hS
      exact law_sp nl (fun p hp => by
        obtain ⟨x, hx, rfl⟩ := List.mem_map.mp hp
        exact LamX.TabS.nil (hT (He.cT K (x, none)) (List.mem_map.mpr ⟨(x, none), List.mem_map.mpr ⟨x, hx, rfl⟩, rfl⟩))) hS (hlaw ns hn)
end DL.K30
set_option maxRecDepth 100000 in
theorem PySem.Challenge.cw_billrules_k30_whole_fits_holds : PySem.Challenge.rw_billrules_k30_whole_fits.Holds := by
  exact DL.K30.holds_of DL.K30.law_true
