import PyProof.Rows.All
import Wide.All
import OpenK.AllK
import Wide.FinOn
import KE.KStateDown
import HandS.ForMost
import HandS.More
import HandS.Walk
import HandS.Flow
import HandS.Style
import HandS.IsInst
import HandS.Wide
import HandS.WideBits
import HandS.Deep
import HandS.Zip
import HandS.Defaults
import HandS.Head0
import HandS.Head1
import HandS.Head2
import HandS.HeadEnd
import HandS.HeadHook1
import HandS.HeadHook2
import HandS.HeadHook3
import HandS.EndBits
import HandS.TupAny
import HandS.Sort
import PyProof.ListRange
import PySem.Challenge.RW_stillrests_k79_whole_two_rests
set_option Elab.async false
set_option linter.all false
set_option autoImplicit false
set_option maxRecDepth 100000
namespace MP
open PySem PySem.Spec PyProof.Rows L2

/-! ## values as data -/
abbrev D := PyData
abbrev AS := Addr → Prop
abbrev FragK := PySem.W.Frag
def kD : Key → D
  | .inl i => .int i
  | .inr x => .str x

/-- a list, a tuple of the written part -/
def KLst (K : FragK) (a : Addr) (xs : List V) : Prop :=
  ∃ (its : List Value) (n : Nat), K.lookup a = some { cls := .type "list", data := .seq its.toArray n } ∧ xs.length ≤ sizeLine ∧ Vals xs its
def KTup (K : FragK) (a : Addr) (xs : List V) : Prop := ∀ H2 : Hp, SqT K H2 a xs
/-- at a the list xs is to be read, by an address outside M or of the written part -/
def AtL (K : FragK) (M : AS) (H : Hp) (a : Addr) (xs : List V) : Prop :=
  (¬ M a ∧ Rd H a (.lst xs)) ∨ KLst K a xs
def AtT (K : FragK) (M : AS) (H : Hp) (a : Addr) (xs : List V) : Prop :=
  (¬ M a ∧ Rd H a (.tup xs)) ∨ KTup K a xs
/-- the same wherever it lies -/
def LstX (K : FragK) (H : Hp) (a : Addr) (xs : List V) : Prop := Rd H a (.lst xs) ∨ KLst K a xs
theorem KLst.sq {K : FragK} {a : Addr} {xs : List V} (h : KLst K a xs) (H : Hp) : SqL K H a xs := by
  obtain ⟨its, n, e, z, r⟩ := h
  exact .inr ⟨_, its.toArray, n, e, rfl, rfl, rfl, by rw [List.size_toArray, ← r.length]; exact z, by simpa using r⟩
theorem LstX.sq {K : FragK} {H : Hp} {a : Addr} {xs : List V} (h : LstX K H a xs) : SqL K H a xs := by
  rcases h with h | h
  · exact .inl h
  · exact h.sq H
theorem AtL.lx {K : FragK} {M : AS} {H : Hp} {a : Addr} {xs : List V} (h : AtL K M H a xs) : LstX K H a xs := by
  rcases h with ⟨_, h⟩ | h
  · exact .inl h
  · exact .inr h
theorem AtT.sq {K : FragK} {M : AS} {H : Hp} {a : Addr} {xs : List V} (h : AtT K M H a xs) : SqT K H a xs := by
  rcases h with ⟨_, h⟩ | h
  · exact .inl h
  · exact h H
theorem LstX.obj {X : Cx} {pins : List (Addr × Obj)} {σ : L2.St} {H : Hp} {s : Shared} {a : Addr} {xs : List V} (I : Inv X pins σ H s) (h : LstX X.K H a xs) :
    xs.length ≤ sizeLine ∧ ∃ (its : List Value) (n : Nat), Vals xs its ∧ s.heap.get? a = some { cls := .type "list", data := .seq its.toArray n } := by
  rcases h with h | ⟨its, n, e, z, r⟩
  · exact h.ok I.hok
  · exact ⟨z, its, n, r, I.kIn _ _ e⟩

mutual
inductive Rp (K : FragK) (M : AS) (H : Hp) : V → D → Prop
  | non : Rp K M H .non .none
  | bl (b : Bool) : Rp K M H (.bl b) (.bool b)
  | int (i : Int) : Rp K M H (.int i) (.int i)
  | str (x : Str) : Rp K M H (.str x) (.str x)
  | lst {a : Addr} {xs : List V} {ds : List D} : AtL K M H a xs → Rps K M H xs ds → Rp K M H (.ref a) (.list ds)
  | tup {a : Addr} {xs : List V} {ds : List D} : AtT K M H a xs → Rps K M H xs ds → Rp K M H (.ref a) (.tuple ds)
  | dct {a : Addr} {ys : List (Key × V)} {kvs : List (D × D)} : ¬ M a → Rd H a (.dK ys) → Rpd K M H ys kvs → Rp K M H (.ref a) (.dict kvs)
inductive Rps (K : FragK) (M : AS) (H : Hp) : List V → List D → Prop
  | nil : Rps K M H [] []
  | cons {v : V} {vs : List V} {d : D} {ds : List D} : Rp K M H v d → Rps K M H vs ds → Rps K M H (v :: vs) (d :: ds)
inductive Rpd (K : FragK) (M : AS) (H : Hp) : List (Key × V) → List (D × D) → Prop
  | nil : Rpd K M H [] []
  | cons {k : Key} {v : V} {vs : List (Key × V)} {d : D} {ds : List (D × D)} : Rp K M H v d → Rpd K M H vs ds → Rpd K M H ((k, v) :: vs) ((kD k, d) :: ds)
end

/-- what is read stays -/
def Stab (M M' : AS) (H H' : Hp) : Prop := ∀ a o, H a = some o → ¬ M a → H' a = some o ∧ ¬ M' a

theorem AtL.stab {K : FragK} {M M' : AS} {H H' : Hp} {a : Addr} {xs : List V} (s : Stab M M' H H') (h : AtL K M H a xs) : AtL K M' H' a xs := by
  rcases h with ⟨hm, r⟩ | h
  · rcases r with r | ⟨o, r⟩
    · exact .inl ⟨(s a _ r hm).2, .inl (s a _ r hm).1⟩
    · exact .inl ⟨(s a _ r hm).2, .inr ⟨o, (s a _ r hm).1⟩⟩
  · exact .inr h
theorem AtT.stab {K : FragK} {M M' : AS} {H H' : Hp} {a : Addr} {xs : List V} (s : Stab M M' H H') (h : AtT K M H a xs) : AtT K M' H' a xs := by
  rcases h with ⟨hm, r⟩ | h
  · rcases r with r | ⟨o, r⟩
    · exact .inl ⟨(s a _ r hm).2, .inl (s a _ r hm).1⟩
    · exact .inl ⟨(s a _ r hm).2, .inr ⟨o, (s a _ r hm).1⟩⟩
  · exact .inr h
mutual
theorem Rp.stab {K : FragK} {M M' : AS} {H H' : Hp} (s : Stab M M' H H') : ∀ {d : D} {v : V}, Rp K M H v d → Rp K M' H' v d
  | _, _, .non => .non
  | _, _, .bl b => .bl b
  | _, _, .int i => .int i
  | _, _, .str x => .str x
  | _, _, .lst h r => .lst (h.stab s) (Rps.stab s r)
  | _, _, .tup h r => .tup (h.stab s) (Rps.stab s r)
  | _, _, .dct hm h r => by
    rcases h with h | ⟨o, h⟩
    · exact .dct (s _ _ h hm).2 (.inl (s _ _ h hm).1) (Rpd.stab s r)
    · exact .dct (s _ _ h hm).2 (.inr ⟨o, (s _ _ h hm).1⟩) (Rpd.stab s r)
theorem Rps.stab {K : FragK} {M M' : AS} {H H' : Hp} (s : Stab M M' H H') : ∀ {ds : List D} {vs : List V}, Rps K M H vs ds → Rps K M' H' vs ds
  | _, _, .nil => .nil
  | _, _, .cons h r => .cons (Rp.stab s h) (Rps.stab s r)
theorem Rpd.stab {K : FragK} {M M' : AS} {H H' : Hp} (s : Stab M M' H H') : ∀ {ds : List (D × D)} {vs : List (Key × V)}, Rpd K M H vs ds → Rpd K M' H' vs ds
  | _, _, .nil => .nil
  | _, _, .cons h r => .cons (Rp.stab s h) (Rpd.stab s r)
end
theorem Rps.length {K : FragK} {M : AS} {H : Hp} : ∀ {ds : List D} {vs : List V}, Rps K M H vs ds → vs.length = ds.length
  | _, _, .nil => rfl
  | _, _, .cons _ r => by simp [Rps.length r]
theorem Rps.get {K : FragK} {M : AS} {H : Hp} : ∀ {ds : List D} {vs : List V} {i : Nat} {d : D}, Rps K M H vs ds → ds[i]? = some d → ∃ v, vs[i]? = some v ∧ Rp K M H v d
  | _, _, _, _, .nil, e => by simp at e
  | _, _, 0, _, .cons h _, e => by simp at e; subst e; exact ⟨_, rfl, h⟩
  | _, _, i + 1, _, .cons _ r, e => by
    obtain ⟨v, h1, h2⟩ := Rps.get (i := i) r (by simpa using e)
    exact ⟨v, by simpa using h1, h2⟩
theorem Rps.get' {K : FragK} {M : AS} {H : Hp} {ds : List D} {vs : List V} {i : Nat} {v : V} (r : Rps K M H vs ds) (e : vs[i]? = some v) : ∃ d, ds[i]? = some d ∧ Rp K M H v d := by
  have hl := r.length
  have hi : i < ds.length := by
    have := (List.getElem?_eq_some_iff.mp e).1
    omega
  obtain ⟨w, h1, h2⟩ := r.get (List.getElem?_eq_getElem hi)
  rw [e] at h1; cases h1
  exact ⟨_, List.getElem?_eq_getElem hi, h2⟩
theorem Rps.append {K : FragK} {M : AS} {H : Hp} : ∀ {ds es : List D} {vs ws : List V}, Rps K M H vs ds → Rps K M H ws es → Rps K M H (vs ++ ws) (ds ++ es)
  | _, _, _, _, .nil, s => s
  | _, _, _, _, .cons h r, s => .cons h (r.append s)
theorem Rps.set {K : FragK} {M : AS} {H : Hp} {x : V} {y : D} (h : Rp K M H x y) : ∀ {ds : List D} {vs : List V} (i : Nat), Rps K M H vs ds → Rps K M H (vs.set i x) (ds.set i y)
  | _, _, _, .nil => .nil
  | _, _, 0, .cons _ t => .cons h t
  | _, _, i + 1, .cons q t => .cons q (Rps.set h i t)
theorem Rps.take {K : FragK} {M : AS} {H : Hp} : ∀ {ds : List D} {vs : List V} (n : Nat), Rps K M H vs ds → Rps K M H (vs.take n) (ds.take n)
  | _, _, 0, _ => .nil
  | _, _, _ + 1, .nil => .nil
  | _, _, n + 1, .cons r t => .cons r (t.take n)
theorem Rps.drop {K : FragK} {M : AS} {H : Hp} : ∀ {ds : List D} {vs : List V} (n : Nat), Rps K M H vs ds → Rps K M H (vs.drop n) (ds.drop n)
  | _, _, 0, r => r
  | _, _, _ + 1, .nil => .nil
  | _, _, n + 1, .cons _ t => t.drop n
theorem Rps.rep {K : FragK} {M : AS} {H : Hp} {ds : List D} {vs : List V} (r : Rps K M H vs ds) : ∀ n : Nat, Rps K M H (List.replicate n vs).flatten (List.replicate n ds).flatten
  | 0 => .nil
  | n + 1 => by
    simp only [List.replicate_succ, List.flatten_cons]
    exact r.append (Rps.rep r n)
theorem Rps.reverse {K : FragK} {M : AS} {H : Hp} : ∀ {ds : List D} {vs : List V}, Rps K M H vs ds → Rps K M H vs.reverse ds.reverse
  | _, _, .nil => .nil
  | _, _, .cons h r => by
    simp only [List.reverse_cons]
    exact r.reverse.append (.cons h .nil)

/-- the object at p, told as data by what M leaves out (p itself may be in M) -/
inductive Ow (K : FragK) (M : AS) (H : Hp) (p : Addr) : D → Prop
  | lst {xs : List V} {ds : List D} : H p = some (.lst xs) → Rps K M H xs ds → Ow K M H p (.list ds)
  | dct {ys : List (Key × V)} {kvs : List (D × D)} : H p = some (.dK ys) → Rpd K M H ys kvs → Ow K M H p (.dict kvs)

/-- read at the top wherever it lies -/
inductive Rt (K : FragK) (M : AS) (H : Hp) : V → D → Prop
  | val {v : V} {d : D} : Rp K M H v d → Rt K M H v d
  | own {p : Addr} {d : D} : Ow K M H p d → Rt K M H (.ref p) d
inductive Rts (K : FragK) (M : AS) (H : Hp) : List V → List D → Prop
  | nil : Rts K M H [] []
  | cons {v : V} {vs : List V} {d : D} {ds : List D} : Rt K M H v d → Rts K M H vs ds → Rts K M H (v :: vs) (d :: ds)

/-! ## the slots -/
inductive Cell where
  | no
  | sh (d : D)
  | own (d : D)
  | io (d : D)
abbrev Env' := List Cell
def Cell.mut? : Cell → Option D
  | .own d => some d
  | .io d => some d
  | _ => none

abbrev mm (M0 O : AS) : AS := fun a => M0 a ∨ O a
structure Rel (K : FragK) (M0 W0 O : AS) (ρ : Env') (σ : L2.St) (H : Hp) : Prop where
  wsub : ∀ a, W0 a → M0 a
  mdom : ∀ a, M0 a ∨ O a → ∃ o, H a = some o
  disj : ∀ a, O a → ¬ M0 a
  len : ρ.length = σ.length
  sh : ∀ (k : Nat) (d : D), ρ[k]? = some (.sh d) → ∃ v, σ[k]? = some (some v) ∧ Rp K (mm M0 O) H v d
  own : ∀ (k : Nat) (d : D), ρ[k]? = some (.own d) → ∃ p, σ[k]? = some (some (.ref p)) ∧ O p ∧ Ow K (mm M0 O) H p d
  io : ∀ (k : Nat) (d : D), ρ[k]? = some (.io d) → ∃ p, σ[k]? = some (some (.ref p)) ∧ W0 p ∧ Ow K (mm M0 O) H p d
  uniq : ∀ (i j : Nat) (c e : Cell) (p : Addr), i ≠ j → ρ[i]? = some c → ρ[j]? = some e → c.mut?.isSome = true → e.mut?.isSome = true → σ[i]? = some (some (.ref p)) → σ[j]? = some (some (.ref p)) → False

/-- what may have changed -/
structure Ext (W0 O : AS) (H : Hp) (O' : AS) (H' : Hp) : Prop where
  keep : ∀ a o, H a = some o → ¬ W0 a → ¬ O a → H' a = some o
  old : ∀ a, O' a → O a ∨ H a = none
  dom : ∀ a o, H a = some o → ∃ o', H' a = some o'
theorem Ext.refl {W0 O : AS} {H : Hp} : Ext W0 O H O H := ⟨fun _ _ h _ _ => h, fun _ h => .inl h, fun _ o h => ⟨o, h⟩⟩
theorem Ext.trans {W0 O O1 O2 : AS} {H H1 H2 : Hp} (a : Ext W0 O H O1 H1) (b : Ext W0 O1 H1 O2 H2) : Ext W0 O H O2 H2 := by
  refine ⟨fun x o h hw ho => ?_, fun x hx => ?_, fun x o h => ?_⟩
  · have h1 := a.keep x o h hw ho
    refine b.keep x o h1 hw fun z => ?_
    rcases a.old x z with z | z
    · exact ho z
    · rw [h] at z; cases z
  · rcases b.old x hx with z | z
    · exact a.old x z
    · right
      cases e : H x with
      | none => rfl
      | some o =>
        obtain ⟨o', e'⟩ := a.dom x o e
        rw [z] at e'; cases e'
  · obtain ⟨o1, e1⟩ := a.dom x o h
    exact b.dom x o1 e1
theorem Ext.same {W0 O : AS} {H H' : Hp} (s : Same H H') : Ext W0 O H O H' := ⟨fun a o h _ _ => s a o h, fun _ h => .inl h, fun a o h => ⟨o, s a o h⟩⟩
theorem Ext.stab {W0 M0 O O' : AS} {H H' : Hp} (x : Ext W0 O H O' H') (hw : ∀ a, W0 a → M0 a) : Stab (mm M0 O) (mm M0 O') H H' := fun a o h hm => by
  have h1 : ¬ M0 a := fun z => hm (.inl z)
  have h2 : ¬ O a := fun z => hm (.inr z)
  refine ⟨x.keep a o h (fun z => h1 (hw a z)) h2, ?_⟩
  rintro (z | z)
  · exact h1 z
  · rcases x.old a z with z | z
    · exact h2 z
    · rw [h] at z; cases z
theorem Stab.same {M : AS} {H H' : Hp} (s : Same H H') : Stab M M H H' := fun a o h hm => ⟨s a o h, hm⟩
theorem Ow.stab {K : FragK} {M M' : AS} {H H' : Hp} {p : Addr} {d : D} (s : Stab M M' H H') (hp : H' p = H p) (h : Ow K M H p d) : Ow K M' H' p d := by
  cases h with
  | lst e r => exact .lst (hp.trans e) (r.stab s)
  | dct e r => exact .dct (hp.trans e) (r.stab s)
theorem Ow.same {K : FragK} {M : AS} {H H' : Hp} {p : Addr} {d : D} (s : Same H H') (h : Ow K M H p d) : Ow K M H' p d := by
  cases h with
  | lst e r => exact .lst (s _ _ e) (r.stab (.same s))
  | dct e r => exact .dct (s _ _ e) (r.stab (.same s))
theorem Rel.same {K : FragK} {M0 W0 O : AS} {ρ : Env'} {σ : L2.St} {H H' : Hp} (r : Rel K M0 W0 O ρ σ H) (s : Same H H') : Rel K M0 W0 O ρ σ H' where
  wsub := r.wsub
  mdom := fun a h => let ⟨o, e⟩ := r.mdom a h; ⟨o, s a o e⟩
  disj := r.disj
  len := r.len
  sh := fun k d h => let ⟨v, e, p⟩ := r.sh k d h; ⟨v, e, p.stab (.same s)⟩
  own := fun k d h => let ⟨p, e, o, w⟩ := r.own k d h; ⟨p, e, o, w.same s⟩
  io := fun k d h => let ⟨p, e, o, w⟩ := r.io k d h; ⟨p, e, o, w.same s⟩
  uniq := r.uniq

/-! ## the meaning of expressions -/
abbrev ME := Env' → Option (D × Env')
abbrev MT := Env' → Option (Bool × Env')
inductive Out where
  | nx (ρ : Env')
  | rt (d : D) (ρ : Env')
  | rf (d : D) (ρ : Env')
  | bk (ρ : Env')
  | ct (ρ : Env')
abbrev MS := Env' → Option Out

/-- an expression whose value is shared from then on -/
def tE (K : FragK) (f : ME) : TE := fun σ H Q => ∃ (M0 W0 O : AS) (ρ : Env') (d : D) (ρ' : Env'), Rel K M0 W0 O ρ σ H ∧ f ρ = some (d, ρ') ∧
  ∀ v H' O', Rel K M0 W0 O' ρ' σ H' → Ext W0 O H O' H' → Rp K (mm M0 O') H' v d → Q v H'
/-- one whose value is a new object that nothing else has -/
def tF (K : FragK) (f : ME) : TE := fun σ H Q => ∃ (M0 W0 O : AS) (ρ : Env') (d : D) (ρ' : Env'), Rel K M0 W0 O ρ σ H ∧ f ρ = some (d, ρ') ∧
  ∀ p H' O', Rel K M0 W0 O' ρ' σ H' → Ext W0 O H O' H' → O' p → (∀ (k : Nat) (c : Cell), ρ'[k]? = some c → c.mut?.isSome = true → σ[k]? ≠ some (some (.ref p))) → Ow K (mm M0 O') H' p d → Q (.ref p) H'
def tT (K : FragK) (f : MT) : TT := fun σ H Q => ∃ (M0 W0 O : AS) (ρ : Env') (b : Bool) (ρ' : Env'), Rel K M0 W0 O ρ σ H ∧ f ρ = some (b, ρ') ∧
  ∀ H' O', Rel K M0 W0 O' ρ' σ H' → Ext W0 O H O' H' → Q b H'
def PostS (K : FragK) (M0 W0 O : AS) (H : Hp) (E : Ends) : Out → Prop
  | .nx ρ' => ∀ σ' H' O', Rel K M0 W0 O' ρ' σ' H' → Ext W0 O H O' H' → E.nx σ' H'
  | .bk ρ' => ∀ σ' H' O', Rel K M0 W0 O' ρ' σ' H' → Ext W0 O H O' H' → E.bk σ' H'
  | .ct ρ' => ∀ σ' H' O', Rel K M0 W0 O' ρ' σ' H' → Ext W0 O H O' H' → E.ct σ' H'
  | .rt d ρ' => ∀ v σ' H' O', Rel K M0 W0 O' ρ' σ' H' → Ext W0 O H O' H' → Rp K (mm M0 O') H' v d → E.rt v H'
  | .rf d ρ' => ∀ p σ' H' O', Rel K M0 W0 O' ρ' σ' H' → Ext W0 O H O' H' → O' p → Ow K (mm M0 O') H' p d → E.rt (.ref p) H'
def tS (K : FragK) (g : MS) : TS := fun E σ H => ∃ (M0 W0 O : AS) (ρ : Env') (o : Out), Rel K M0 W0 O ρ σ H ∧ g ρ = some o ∧ PostS K M0 W0 O H E o

abbrev SE (X : Cx) (e : Expr) (f : ME) : Prop := PE X e (tE X.K f)
abbrev SF (X : Cx) (e : Expr) (f : ME) : Prop := PE X e (tF X.K f)
abbrev SB (X : Cx) (e : Expr) (f : MT) : Prop := PT X e (tT X.K f)
abbrev SS (X : Cx) (s : Stmt) (g : MS) : Prop := PS X s (tS X.K g)
abbrev SSs (X : Cx) (s : List Stmt) (g : MS) : Prop := PSs X s (tS X.K g)

theorem pe_wk {X : Cx} {e : Expr} {t t' : TE} (h : PE X e t) (w : ∀ σ H Q, t' σ H Q → t σ H Q) : PE X e t' := ⟨fun pins s σ H Q I q => h.run pins s σ H Q I (w σ H Q q)⟩
theorem pt_wk {X : Cx} {e : Expr} {t t' : TT} (h : PT X e t) (w : ∀ σ H Q, t' σ H Q → t σ H Q) : PT X e t' := ⟨fun pins s σ H Q I q => h.run pins s σ H Q I (w σ H Q q)⟩
theorem ps_wk {X : Cx} {e : Stmt} {t t' : TS} (h : PS X e t) (w : ∀ E σ H, t' E σ H → t E σ H) : PS X e t' := ⟨fun pins s σ H E I q => h.run pins s σ H E I (w E σ H q)⟩
theorem pss_wk {X : Cx} {e : List Stmt} {t t' : TS} (h : PSs X e t) (w : ∀ E σ H, t' E σ H → t E σ H) : PSs X e t' := ⟨fun pins s σ H E I q => h.run pins s σ H E I (w E σ H q)⟩
theorem pa_wk {X : Cx} {e : List Expr} {t t' : TA} (h : PA X e t) (w : ∀ σ H Q, t' σ H Q → t σ H Q) : PA X e t' := ⟨fun pos pins s σ H Q I q => h.run pos pins s σ H Q I (w σ H Q q)⟩
end MP

set_option maxRecDepth 100000
namespace MP
open PySem PySem.Spec PyProof.Rows L2

/-! ## arguments -/
/-- an argument: evaluated, or a slot's object that is only read -/
inductive AF where
  | v (f : ME)
  | p (k : Nat)
def rd (ρ : Env') (k : Nat) : Option D := match ρ[k]? with
  | some (.sh d) => some d
  | some (.own d) => some d
  | some (.io d) => some d
  | _ => none
def evA : List AF → Env' → Option (List D × Env')
  | [], ρ => some ([], ρ)
  | .v f :: r, ρ => (f ρ).bind fun x => (evA r x.2).bind fun y => some (x.1 :: y.1, y.2)
  | .p k :: r, ρ => (rd ρ k).bind fun _ => (evA r ρ).bind fun y => (rd y.2 k).bind fun d => some (d :: y.1, y.2)
def tArg (K : FragK) : AF → TE
  | .v f => tE K f
  | .p k => tVar k
def tArgs (K : FragK) : List AF → TA
  | [] => tNil
  | a :: r => tCons (tArg K a) (tArgs K r)
abbrev SAs (X : Cx) (es : List Expr) (as : List AF) : Prop := PA X es (tArgs X.K as)
abbrev SA (X : Cx) (e : Expr) (a : AF) : Prop := PE X e (tArg X.K a)

section
variable {K : FragK} {M0 W0 O : AS} {ρ : Env'} {σ : L2.St} {H : Hp}
theorem Rel.rd (r : Rel K M0 W0 O ρ σ H) {k : Nat} {d : D} (h : rd ρ k = some d) : ∃ v, σ[k]? = some (some v) ∧ Rt K (mm M0 O) H v d := by
  unfold MP.rd at h
  split at h
  · rename_i e q; cases h
    obtain ⟨v, e1, p⟩ := r.sh k _ q
    exact ⟨v, e1, .val p⟩
  · rename_i e q; cases h
    obtain ⟨p, e1, _, w⟩ := r.own k _ q
    exact ⟨_, e1, .own w⟩
  · rename_i e q; cases h
    obtain ⟨p, e1, _, w⟩ := r.io k _ q
    exact ⟨_, e1, .own w⟩
  · cases h
theorem args_ok : ∀ {as : List AF} {O : AS} {ρ : Env'} {H : Hp} {ds : List D} {ρ' : Env'} {Q : List V → Hp → Prop}, Rel K M0 W0 O ρ σ H → evA as ρ = some (ds, ρ') →
    (∀ xs H' O', Rel K M0 W0 O' ρ' σ H' → Ext W0 O H O' H' → Rts K (mm M0 O') H' xs ds → Q xs H') → tArgs K as σ H Q
  | [], O, ρ, H, ds, ρ', Q, r, e, q => by
    simp only [evA, Option.some.injEq, Prod.mk.injEq] at e
    obtain ⟨rfl, rfl⟩ := e
    exact q [] H O r .refl .nil
  | .v f :: as, O, ρ, H, ds, ρ', Q, r, e, q => by
    simp only [evA, Option.bind_eq_some_iff] at e
    obtain ⟨⟨d, ρ1⟩, e1, ⟨ds2, ρ2⟩, e2, e3⟩ := e
    cases e3
    refine ⟨M0, W0, O, ρ, d, ρ1, r, e1, fun v H1 O1 r1 x1 p1 => ?_⟩
    refine args_ok r1 e2 fun xs H2 O2 r2 x2 p2 => ?_
    exact q (v :: xs) H2 O2 r2 (x1.trans x2) (.cons (.val (p1.stab (x2.stab r1.wsub))) p2)
  | .p k :: as, O, ρ, H, ds, ρ', Q, r, e, q => by
    simp only [evA, Option.bind_eq_some_iff] at e
    obtain ⟨d0, e0, ⟨ds2, ρ2⟩, e2, d, e3, e4⟩ := e
    cases e4
    obtain ⟨v, hv, _⟩ := r.rd e0
    refine ⟨v, hv, ?_⟩
    refine args_ok r e2 fun xs H2 O2 r2 x2 p2 => ?_
    obtain ⟨v', hv', p⟩ := r2.rd e3
    rw [hv] at hv'; cases hv'
    exact q (v :: xs) H2 O2 r2 x2 (.cons p p2)
end

/-! ## operations by values -/
/-- an operation of data: what it tells is a value -/
def opN (f : List D → Option D) (as : List AF) : ME := fun ρ => (evA as ρ).bind fun x => (f x.1).bind fun d => some (d, x.2)
abbrev MDom (M : AS) (H : Hp) : Prop := ∀ a, M a → ∃ o, H a = some o
/-- r is served by f: by data in, a value out -/
def VOk (K : FragK) (r : List V → Hp → VK → Prop) (f : List D → Option D) : Prop :=
  ∀ (M : AS) (H : Hp) (xs : List V) (ds : List D) (d : D) (Q : VK), MDom M H → Rts K M H xs ds → f ds = some d → (∀ v H', Same H H' → Rp K M H' v d → Q v H') → r xs H Q
/-- p is new between H and H', its items stood in H -/
inductive Nw (K : FragK) (M : AS) (H H' : Hp) (p : Addr) : D → Prop
  | lst {xs : List V} {ds : List D} : H' p = some (.lst xs) → Rps K M H xs ds → Nw K M H H' p (.list ds)
  | dct {ys : List (Key × V)} {kvs : List (D × D)} : H' p = some (.dK ys) → Rpd K M H ys kvs → Nw K M H H' p (.dict kvs)
/-- .. a new object out -/
def FOk (K : FragK) (r : List V → Hp → VK → Prop) (f : List D → Option D) : Prop :=
  ∀ (M : AS) (H : Hp) (xs : List V) (ds : List D) (d : D) (Q : VK), MDom M H → Rts K M H xs ds → f ds = some d → (∀ p H1 H', Same H H1 → Same H1 H' → H1 p = none → Nw K M H1 H' p d → Q (.ref p) H') → r xs H Q
theorem MDom.new {M : AS} {H : Hp} {p : Addr} (m : MDom M H) (h : H p = none) : ¬ M p := fun z => by
  obtain ⟨o, e⟩ := m p z
  rw [h] at e; cases e
theorem Ow.rp {K : FragK} {M : AS} {H : Hp} {p : Addr} {d : D} (h : Ow K M H p d) (n : ¬ M p) : Rp K M H (.ref p) d := by
  cases h with
  | lst e r => exact .lst (.inl ⟨n, .inl e⟩) r
  | dct e r => exact .dct n (.inl e) r
theorem Nw.ow {K : FragK} {M : AS} {H H' : Hp} {p : Addr} {d : D} (h : Nw K M H H' p d) (s : Same H H') : Ow K M H' p d := by
  cases h with
  | lst e r => exact .lst e (r.stab (.same s))
  | dct e r => exact .dct e (r.stab (.same s))
theorem FOk.v {K : FragK} {r : List V → Hp → VK → Prop} {f : List D → Option D} (h : FOk K r f) : VOk K r f := fun M H xs ds d Q m p e q =>
  h M H xs ds d Q m p e fun p H1 H' s1 s2 n w => q _ _ (s1.trans s2) ((w.ow s2).rp (MDom.new (fun a z => let ⟨o, e⟩ := m a z; ⟨o, s1 a o e⟩) n))
theorem Rel.mDom {K : FragK} {M0 W0 O : AS} {ρ : Env'} {σ : L2.St} {H : Hp} (r : Rel K M0 W0 O ρ σ H) : MDom (mm M0 O) H := r.mdom

section
variable {K : FragK} {r : List V → Hp → VK → Prop} {f : List D → Option D} {as : List AF}
theorem opN_ok (h : VOk K r f) : ∀ (σ : L2.St) (H : Hp) (Q : VK), tE K (opN f as) σ H Q → tArgs K as σ H fun xs H1 => r xs H1 Q := by
  rintro σ H Q ⟨M0, W0, O, ρ, d, ρ', rel, e, q⟩
  simp only [opN, Option.bind_eq_some_iff] at e
  obtain ⟨⟨ds, ρ1⟩, e1, d1, e2, e3⟩ := e
  cases e3
  refine args_ok rel e1 fun xs H1 O1 r1 x1 p1 => ?_
  exact h _ H1 xs ds d Q r1.mDom p1 e2 fun v H' s p => q v H' O1 (r1.same s) (x1.trans (.same s)) p
/-- p is laid, and owned for now -/
theorem Rel.alloc {M0 W0 O1 : AS} {ρ1 : Env'} {σ : L2.St} {H1 H' : Hp} {p : Addr} {d : D} (r1 : Rel K M0 W0 O1 ρ1 σ H1) (s : Same H1 H') (n : H1 p = none) (w : Nw K (mm M0 O1) H1 H' p d) :
    Rel K M0 W0 (fun a => O1 a ∨ a = p) ρ1 σ H' ∧ Ext W0 O1 H1 (fun a => O1 a ∨ a = p) H' ∧ (∀ (k : Nat) (c : Cell), ρ1[k]? = some c → c.mut?.isSome = true → σ[k]? ≠ some (some (.ref p))) ∧
      Ow K (mm M0 fun a => O1 a ∨ a = p) H' p d := by
  have np : ¬ (mm M0 O1) p := r1.mDom.new n
  have r2 := r1.same s
  have st2 : Stab (mm M0 O1) (mm M0 fun a => O1 a ∨ a = p) H1 H' := fun a o ha hm => ⟨s a o ha, by
    rintro (z | z | z)
    · exact hm (.inl z)
    · exact hm (.inr z)
    · subst z; rw [n] at ha; cases ha⟩
  refine ⟨⟨r1.wsub, fun a ha => ?_, fun a ha => ?_, r1.len, fun k d hk => ?_, fun k d hk => ?_, fun k d hk => ?_, r1.uniq⟩, ⟨fun a o ha _ _ => s a o ha, fun a ha => ?_, fun a o ha => ⟨o, s a o ha⟩⟩, fun k c hk hc z => ?_, ?_⟩
  · rcases ha with z | z | z
    · exact r2.mdom a (.inl z)
    · exact r2.mdom a (.inr z)
    · subst z
      cases w with
      | lst e _ => exact ⟨_, e⟩
      | dct e _ => exact ⟨_, e⟩
  · rcases ha with z | z
    · exact r1.disj a z
    · subst z; exact fun z => np (.inl z)
  · obtain ⟨v, ev, pv⟩ := r1.sh k d hk
    exact ⟨v, ev, pv.stab st2⟩
  · obtain ⟨b, ev, ob, wv⟩ := r1.own k d hk
    refine ⟨b, ev, .inl ob, ?_⟩
    cases wv with
    | lst e r => exact .lst (s _ _ e) (r.stab st2)
    | dct e r => exact .dct (s _ _ e) (r.stab st2)
  · obtain ⟨b, ev, ob, wv⟩ := r1.io k d hk
    refine ⟨b, ev, ob, ?_⟩
    cases wv with
    | lst e r => exact .lst (s _ _ e) (r.stab st2)
    | dct e r => exact .dct (s _ _ e) (r.stab st2)
  · rcases ha with z | z
    · exact .inl z
    · subst z; exact .inr n
  · cases c with
    | no => cases hc
    | sh d => cases hc
    | own d =>
      obtain ⟨b, e1, ob, w⟩ := r1.own k d hk
      rw [z] at e1; cases e1
      exact np (.inr ob)
    | io d =>
      obtain ⟨b, e1, ob, w⟩ := r1.io k d hk
      rw [z] at e1; cases e1
      exact np (.inl (r1.wsub _ ob))
  · cases w with
    | lst e r => exact .lst e (r.stab st2)
    | dct e r => exact .dct e (r.stab st2)
/-- .. as a new object -/
theorem opF_ok (h : FOk K r f) : ∀ (σ : L2.St) (H : Hp) (Q : VK), tF K (opN f as) σ H Q → tArgs K as σ H fun xs H1 => r xs H1 Q := by
  rintro σ H Q ⟨M0, W0, O, ρ, d, ρ', rel, e, q⟩
  simp only [opN, Option.bind_eq_some_iff] at e
  obtain ⟨⟨ds, ρ1⟩, e1, d1, e2, e3⟩ := e
  cases e3
  refine args_ok rel e1 fun xs H1 O1 r1 x1 p1 => ?_
  refine h _ H1 xs ds d Q r1.mDom p1 e2 fun p H2 H' s1 s2 n w => ?_
  obtain ⟨a1, a2, a3, a4⟩ := (r1.same s1).alloc s2 n w
  exact q p H' _ a1 (x1.trans ((Ext.same s1).trans a2)) (.inr rfl) a3 a4
/-- a new object, shared from then on -/
theorem Rel.freeze {M0 W0 O1 : AS} {ρ1 : Env'} {σ : L2.St} {H' : Hp} {p : Addr} {d : D} (r1 : Rel K M0 W0 O1 ρ1 σ H') (hp : O1 p) (u : ∀ (k : Nat) (c : Cell), ρ1[k]? = some c → c.mut?.isSome = true → σ[k]? ≠ some (some (.ref p))) (w : Ow K (mm M0 O1) H' p d) :
    Rel K M0 W0 (fun a => O1 a ∧ a ≠ p) ρ1 σ H' ∧ Ext W0 O1 H' (fun a => O1 a ∧ a ≠ p) H' ∧ Rp K (mm M0 fun a => O1 a ∧ a ≠ p) H' (.ref p) d := by
  have st : Stab (mm M0 O1) (mm M0 fun a => O1 a ∧ a ≠ p) H' H' := fun a o ha hm => ⟨ha, by
    rintro (z | z)
    · exact hm (.inl z)
    · exact hm (.inr z.1)⟩
  refine ⟨⟨r1.wsub, fun a ha => ?_, fun a ha => r1.disj a ha.1, r1.len, fun k d hk => ?_, fun k d hk => ?_, fun k d hk => ?_, r1.uniq⟩, ⟨fun a o ha _ _ => ha, fun a ha => .inl ha.1, fun a o ha => ⟨o, ha⟩⟩, ?_⟩
  · rcases ha with z | z
    · exact r1.mdom a (.inl z)
    · exact r1.mdom a (.inr z.1)
  · obtain ⟨v, ev, pv⟩ := r1.sh k d hk
    exact ⟨v, ev, pv.stab st⟩
  · obtain ⟨b, ev, ob, wv⟩ := r1.own k d hk
    refine ⟨b, ev, ⟨ob, fun z => ?_⟩, wv.stab st rfl⟩
    subst z
    exact u k _ hk rfl ev
  · obtain ⟨b, ev, ob, wv⟩ := r1.io k d hk
    exact ⟨b, ev, ob, wv.stab st rfl⟩
  · have np : ¬ (mm M0 fun a => O1 a ∧ a ≠ p) p := by
      rintro (z | z)
      · exact r1.disj p hp z
      · exact z.2 rfl
    exact (w.stab st rfl).rp np
theorem SF.se {X : Cx} {e : Expr} {g : ME} (h : SF X e g) : SE X e g := by
  refine pe_wk h ?_
  rintro σ H Q ⟨M0, W0, O, ρ, d, ρ', rel, ev, q⟩
  refine ⟨M0, W0, O, ρ, d, ρ', rel, ev, fun p H' O' r1 x1 hp u w => ?_⟩
  obtain ⟨b1, b2, b3⟩ := r1.freeze hp u w
  exact q _ _ _ b1 (x1.trans b2) b3
end
end MP

set_option maxRecDepth 100000
namespace MP
open PySem PySem.Spec PyProof.Rows L2

/-! ## what stands for data -/
section
variable {K : FragK} {M : AS} {H : Hp} {v : V} {xs : List V}
theorem Rt.non' (h : Rt K M H v .none) : v = .non := by
  cases h with
  | val h => cases h; rfl
  | own w => cases w
theorem Rt.bl' {b : Bool} (h : Rt K M H v (.bool b)) : v = .bl b := by
  cases h with
  | val h => cases h; rfl
  | own w => cases w
theorem Rt.int' {i : Int} (h : Rt K M H v (.int i)) : v = .int i := by
  cases h with
  | val h => cases h; rfl
  | own w => cases w
theorem Rt.str' {x : Str} (h : Rt K M H v (.str x)) : v = .str x := by
  cases h with
  | val h => cases h; rfl
  | own w => cases w
theorem Rt.lst' {ds : List D} (h : Rt K M H v (.list ds)) : ∃ a xs, v = .ref a ∧ LstX K H a xs ∧ Rps K M H xs ds := by
  cases h with
  | val h => cases h with
    | lst a r => exact ⟨_, _, rfl, a.lx, r⟩
  | own w => cases w with
    | lst e r => exact ⟨_, _, rfl, .inl (.inl e), r⟩
theorem Rt.tup' {ds : List D} (h : Rt K M H v (.tuple ds)) : ∃ a xs, v = .ref a ∧ AtT K M H a xs ∧ Rps K M H xs ds := by
  cases h with
  | val h => cases h with
    | tup a r => exact ⟨_, _, rfl, a, r⟩
  | own w => cases w
theorem Rt.dct' {ds : List (D × D)} (h : Rt K M H v (.dict ds)) : ∃ a ys, v = .ref a ∧ Rd H a (.dK ys) ∧ Rpd K M H ys ds := by
  cases h with
  | val h => cases h with
    | dct m a r => exact ⟨_, _, rfl, a, r⟩
  | own w => cases w with
    | dct e r => exact ⟨_, _, rfl, .inl e, r⟩
theorem Rts.zero (h : Rts K M H xs []) : xs = [] := by cases h; rfl
theorem Rts.one {a : D} (h : Rts K M H xs [a]) : ∃ x, xs = [x] ∧ Rt K M H x a := by
  cases h with
  | cons h r => cases r; exact ⟨_, rfl, h⟩
theorem Rts.two {a b : D} (h : Rts K M H xs [a, b]) : ∃ x y, xs = [x, y] ∧ Rt K M H x a ∧ Rt K M H y b := by
  cases h with
  | cons h r => cases r with
    | cons h2 r => cases r; exact ⟨_, _, rfl, h, h2⟩
theorem Rts.three {a b c : D} (h : Rts K M H xs [a, b, c]) : ∃ x y z, xs = [x, y, z] ∧ Rt K M H x a ∧ Rt K M H y b ∧ Rt K M H z c := by
  cases h with
  | cons h r => cases r with
    | cons h2 r => cases r with
      | cons h3 r => cases r; exact ⟨_, _, _, rfl, h, h2, h3⟩
theorem Rp.rt {d : D} (h : Rp K M H v d) : Rt K M H v d := .val h
end

/-! ## the deep reading of the library -/
mutual
def noDict : D → Bool
  | .none | .bool _ | .int _ | .str _ => true
  | .list xs | .tuple xs => noDicts xs
  | .dict _ => false
def noDicts : List D → Bool
  | [] => true
  | x :: xs => noDict x && noDicts xs
end
mutual
theorem Rp.dp {K : FragK} {M : AS} {H : Hp} : ∀ {d : D} {v : V}, d.canLay0 = true → Rp K M H v d → Dp K H v d
  | _, _, _, .non => .non
  | _, _, _, .bl b => .bl b
  | _, _, _, .int i => .int i
  | _, _, _, .str x => .str x
  | _, _, c, .lst h r => .lst h.lx.sq (Rps.dp (by simpa [PyData.canLay0] using c) r)
  | _, _, c, .tup h r => .tup h.sq (Rps.dp (by simpa [PyData.canLay0] using c) r)
  | _, _, c, .dct _ _ _ => by simp [PyData.canLay0] at c
theorem Rps.dp {K : FragK} {M : AS} {H : Hp} : ∀ {ds : List D} {vs : List V}, PyData.canLayAll0 ds = true → Rps K M H vs ds → DpAll K H vs ds
  | _, _, _, .nil => .nil
  | d :: ds, _, c, .cons h r => by
    have c' : d.canLay0 = true ∧ PyData.canLayAll0 ds = true := by simpa [PyData.canLayAll0] using c
    exact .cons (Rp.dp c'.1 h) (Rps.dp c'.2 r)
end
theorem Rt.dp {K : FragK} {M : AS} {H : Hp} {d : D} {v : V} (c : d.canLay0 = true) (h : Rt K M H v d) : Dp K H v d := by
  cases h with
  | val h => exact h.dp c
  | own w => cases w with
    | lst e r => exact .lst (.inl (.inl e)) (r.dp (by simpa [PyData.canLay0] using c))
    | dct e r => simp [PyData.canLay0] at c

/-! ## names, constants -/
def nameV (k : Nat) : ME := fun ρ => match ρ[k]? with
  | some (.sh d) => some (d, ρ)
  | some (.own d) => some (d, ρ.set k (.sh d))
  | _ => none
def cE (d : D) : ME := fun ρ => some (d, ρ)

section
variable {X : Cx}
theorem Rel.share {K : FragK} {M0 W0 O : AS} {ρ : Env'} {σ : L2.St} {H : Hp} {k : Nat} {d : D} {p : Addr} (r : Rel K M0 W0 O ρ σ H) (hk : ρ[k]? = some (.own d)) (hp : σ[k]? = some (some (.ref p))) :
    Rel K M0 W0 (fun a => O a ∧ a ≠ p) (ρ.set k (.sh d)) σ H ∧ Ext W0 O H (fun a => O a ∧ a ≠ p) H ∧ Rp K (mm M0 fun a => O a ∧ a ≠ p) H (.ref p) d := by
  have st : Stab (mm M0 O) (mm M0 fun a => O a ∧ a ≠ p) H H := fun a o ha hm => ⟨ha, by
    rintro (z | z)
    · exact hm (.inl z)
    · exact hm (.inr z.1)⟩
  obtain ⟨p', e1, op, w⟩ := r.own k d hk
  rw [hp] at e1; cases e1
  have np : ¬ (mm M0 fun a => O a ∧ a ≠ p) p := by
    rintro (z | z)
    · exact r.disj p op z
    · exact z.2 rfl
  have rp := (w.stab st rfl).rp np
  have hlt : k < ρ.length := (List.getElem?_eq_some_iff.mp hk).1
  have un : ∀ (j : Nat) (c : Cell), (ρ.set k (.sh d))[j]? = some c → c.mut?.isSome = true → ρ[j]? = some c ∧ j ≠ k := fun j c hj hc => by
    by_cases e : j = k
    · subst e
      rw [List.getElem?_set_self hlt] at hj
      cases hj; cases hc
    · rw [List.getElem?_set_ne (Ne.symm e)] at hj
      exact ⟨hj, e⟩
  refine ⟨⟨r.wsub, fun a ha => ?_, fun a ha => r.disj a ha.1, by rw [List.length_set]; exact r.len, fun j e hj => ?_, fun j e hj => ?_, fun j e hj => ?_, fun i j c e q ne hi hj hc he s1 s2 => ?_⟩, ⟨fun a o ha _ _ => ha, fun a ha => .inl ha.1, fun a o ha => ⟨o, ha⟩⟩, rp⟩
  · rcases ha with z | z
    · exact r.mdom a (.inl z)
    · exact r.mdom a (.inr z.1)
  · by_cases ej : j = k
    · subst ej
      rw [List.getElem?_set_self hlt] at hj
      cases hj
      exact ⟨_, hp, rp⟩
    · rw [List.getElem?_set_ne (Ne.symm ej)] at hj
      obtain ⟨v, ev, pv⟩ := r.sh j e hj
      exact ⟨v, ev, pv.stab st⟩
  · obtain ⟨hj', ne⟩ := un j _ hj rfl
    obtain ⟨b, ev, ob, wv⟩ := r.own j e hj'
    refine ⟨b, ev, ⟨ob, fun z => ?_⟩, wv.stab st rfl⟩
    subst z
    exact r.uniq j k _ _ b ne hj' hk rfl rfl ev hp
  · obtain ⟨hj', ne⟩ := un j _ hj rfl
    obtain ⟨b, ev, ob, wv⟩ := r.io j e hj'
    exact ⟨b, ev, ob, wv.stab st rfl⟩
  · obtain ⟨hi', _⟩ := un i c hi hc
    obtain ⟨hj', _⟩ := un j e hj he
    exact r.uniq i j c e q ne hi' hj' hc he s1 s2
theorem se_name {i : Nat} {x : Str} {pos : Pos} (hN : X.N[i]? = some x := by rfl) (hv : Vis X.env.scope x := by first | exact Or.inl rfl | exact Or.inr (Or.inl rfl) | exact Or.inr (Or.inr rfl)) (hd : (x == ("__debug__" : Str)) = false := by decide)
    (hcd : (x == ("__classdict__" : Str)) = false := by decide) : SE X (.Name x pos) (nameV i) := by
  refine pe_wk (pe_var hN hv hd hcd) ?_
  rintro σ H Q ⟨M0, W0, O, ρ, d, ρ', r, e, q⟩
  unfold nameV at e
  split at e
  · rename_i d' hk
    cases e
    obtain ⟨v, hs, p⟩ := r.sh i _ hk
    exact ⟨v, hs, q v H O r .refl p⟩
  · rename_i d' hk
    cases e
    obtain ⟨p, hs, _, _⟩ := r.own i _ hk
    obtain ⟨a1, a2, a3⟩ := r.share hk hs
    exact ⟨_, hs, q _ H _ a1 a2 a3⟩
  · cases e
theorem sa_name {i : Nat} {x : Str} {pos : Pos} (hN : X.N[i]? = some x := by rfl) (hv : Vis X.env.scope x := by first | exact Or.inl rfl | exact Or.inr (Or.inl rfl) | exact Or.inr (Or.inr rfl)) (hd : (x == ("__debug__" : Str)) = false := by decide)
    (hcd : (x == ("__classdict__" : Str)) = false := by decide) : SA X (.Name x pos) (.p i) := pe_var hN hv hd hcd
theorem SE.a {e : Expr} {f : ME} (h : SE X e f) : SA X e (.v f) := h
theorem cE_ok {K : FragK} {v : V} {d : D} (h : ∀ M H, Rp K M H v d) : ∀ (σ : L2.St) (H : Hp) (Q : VK), tE K (cE d) σ H Q → tC v σ H Q := by
  rintro σ H Q ⟨M0, W0, O, ρ, d', ρ', r, e, q⟩
  cases e
  exact q v H O r .refl (h _ _)
theorem se_int {i : Int} {j : Nat} {pos : Pos} : SE X (.Constant (.int i) j pos) (cE (.int i)) := pe_wk pe_int (cE_ok fun _ _ => .int i)
theorem se_bl {b : Bool} {j : Nat} {pos : Pos} : SE X (.Constant (.bool b) j pos) (cE (.bool b)) := pe_wk pe_bl (cE_ok fun _ _ => .bl b)
theorem se_non {j : Nat} {pos : Pos} : SE X (.Constant .none j pos) (cE .none) := pe_wk pe_non (cE_ok fun _ _ => .non)
theorem se_str {x : Str} {j : Nat} {pos : Pos} : SE X (.Constant (.str x) j pos) (cE (.str x)) := pe_wk pe_str (cE_ok fun _ _ => .str x)

/-! ## arguments in a row -/
theorem sas_nil : SAs X [] [] := pa_nil
theorem sas_cons {e : Expr} {es : List Expr} {a : AF} {as : List AF} (ha : SA X e a) (hr : SAs X es as) (hs : starEach (e :: es) X.env = (false, eval e X.env) :: starEach es X.env := by rfl) : SAs X (e :: es) (a :: as) := pa_cons ha hr hs

/-! ## shapes -/
def l1 (r : V → Hp → VK → Prop) : List V → Hp → VK → Prop := fun xs H Q => match xs with
  | [x] => r x H Q
  | _ => False
def l2 (r : R2) : List V → Hp → VK → Prop := fun xs H Q => match xs with
  | [x, y] => r x y H Q
  | _ => False
/-- an operator of the machine, by its meaning on data -/
def Op2 (X : Cx) (g : Value → Value → Sem Value) (f : List D → Option D) : Prop := ∃ r, OpR X g r ∧ VOk X.K (l2 r) f
def Op2F (X : Cx) (g : Value → Value → Sem Value) (f : List D → Option D) : Prop := ∃ r, OpR X g r ∧ FOk X.K (l2 r) f
def Op1 (X : Cx) (g : Value → Sem Value) (f : List D → Option D) : Prop := ∃ r, UnR X g r ∧ VOk X.K (l1 r) f
def Cal (X : Cx) (v : Value) (f : List D → Option D) : Prop := ∃ r, CallR X v r ∧ VOk X.K r f
def CalF (X : Cx) (v : Value) (f : List D → Option D) : Prop := ∃ r, CallR X v r ∧ FOk X.K r f
def Ixo (X : Cx) (f : List D → Option D) : Prop := ∃ r, IxR X r ∧ VOk X.K (l2 r) f
/-- an operator that does one or the other -/
theorem OpR.or' {g : Value → Value → Sem Value} {r r' : R2} (h : OpR X g r) (h' : OpR X g r') : OpR X g (fun x y H Q => r x y H Q ∨ r' x y H Q) := by
  intro pins s σ H x y v u Q I rx ry q
  rcases q with q | q
  · exact h pins s σ H x y v u Q I rx ry q
  · exact h' pins s σ H x y v u Q I rx ry q

/-! ## operators -/
section
variable {f : List D → Option D} {a b : Expr} {A B : AF} {pos : Pos}
theorem se_bin {op : Operator} (o : Op2 X (binaryOp op) f) (ha : SA X a A) (hb : SA X b B) : SE X (.BinOp a op b pos) (opN f [A, B]) := by
  obtain ⟨r, ho, v⟩ := o
  exact pe_wk (pe_op ho ha hb) fun σ H Q q => opN_ok v σ H Q q
theorem sf_bin {op : Operator} (o : Op2F X (binaryOp op) f) (ha : SA X a A) (hb : SA X b B) : SF X (.BinOp a op b pos) (opN f [A, B]) := by
  obtain ⟨r, ho, v⟩ := o
  exact pe_wk (pe_op ho ha hb) fun σ H Q q => opF_ok v σ H Q q
theorem se_un {op : UnaryOp} (o : Op1 X (unaryOp op) f) (ha : SA X a A) : SE X (.UnaryOp op a pos) (opN f [A]) := by
  obtain ⟨r, ho, v⟩ := o
  exact pe_wk (pe_un ho ha) fun σ H Q q => opN_ok v σ H Q q
theorem se_cmp {op : CmpOp} (o : Op2 X (compareOp op) f) (ha : SA X a A) (hb : SA X b B) (hm : behindInMarks op b = false) : SE X (.Compare a [op] [b] pos) (opN f [A, B]) := by
  obtain ⟨r, ho, v⟩ := o
  exact pe_wk (pe_cmpR ho ha hb hm) fun σ H Q q => opN_ok v σ H Q q
theorem se_ix (o : Ixo X f) (ha : SA X a A) (hb : SA X b B) (hs : PlainIx b := by exact fun _ _ => rfl) : SE X (.Subscript a b pos) (opN f [A, B]) := by
  obtain ⟨r, ho, v⟩ := o
  exact pe_wk (pe_ix ho ha hb hs) fun σ H Q q => opN_ok v σ H Q q
end
section
variable {f : List D → Option D} {x : Str} {p pos : Pos} {e : Expr} {es : List Expr} {as : List AF} {id T : String}
theorem se_callB (c : Cal X (.builtin id) f) (hg : Gl X x) (hm : X.mg x = none) (hv : bootBuiltins x = some (.builtin id)) (ha : SAs X (e :: es) as) (hn : x ≠ "__name__" := by decide) (hdb : (x == ("__debug__" : Str)) = false := by decide)
    (he : starEach (e :: es) X.env = (false, eval e X.env) :: starEach es X.env := by rfl) (hpl : (backTo pos (starEach es X.env)).any (·.1) = false := by rfl) : SE X (.Call (.Name x p) (e :: es) [] pos) (opN f as) := by
  obtain ⟨r, ho, v⟩ := c
  exact pe_wk (pe_callB ho hg hm hv ha hn hdb he hpl) fun σ H Q q => opN_ok v σ H Q q
theorem sf_callB (c : CalF X (.builtin id) f) (hg : Gl X x) (hm : X.mg x = none) (hv : bootBuiltins x = some (.builtin id)) (ha : SAs X (e :: es) as) (hn : x ≠ "__name__" := by decide) (hdb : (x == ("__debug__" : Str)) = false := by decide)
    (he : starEach (e :: es) X.env = (false, eval e X.env) :: starEach es X.env := by rfl) (hpl : (backTo pos (starEach es X.env)).any (·.1) = false := by rfl) : SF X (.Call (.Name x p) (e :: es) [] pos) (opN f as) := by
  obtain ⟨r, ho, v⟩ := c
  exact pe_wk (pe_callB ho hg hm hv ha hn hdb he hpl) fun σ H Q q => opF_ok v σ H Q q
theorem se_callT (c : Cal X (.type T) f) (hg : Gl X x) (hm : X.mg x = none) (hv : bootBuiltins x = some (.type T)) (ha : SAs X (e :: es) as) (hn : x ≠ "__name__" := by decide) (hdb : (x == ("__debug__" : Str)) = false := by decide)
    (he : starEach (e :: es) X.env = (false, eval e X.env) :: starEach es X.env := by rfl) (hpl : (backTo pos (starEach es X.env)).any (·.1) = false := by rfl) : SE X (.Call (.Name x p) (e :: es) [] pos) (opN f as) := by
  obtain ⟨r, ho, v⟩ := c
  exact pe_wk (pe_callTy ho hg hm hv ha hn hdb he hpl) fun σ H Q q => opN_ok v σ H Q q
theorem sf_callT (c : CalF X (.type T) f) (hg : Gl X x) (hm : X.mg x = none) (hv : bootBuiltins x = some (.type T)) (ha : SAs X (e :: es) as) (hn : x ≠ "__name__" := by decide) (hdb : (x == ("__debug__" : Str)) = false := by decide)
    (he : starEach (e :: es) X.env = (false, eval e X.env) :: starEach es X.env := by rfl) (hpl : (backTo pos (starEach es X.env)).any (·.1) = false := by rfl) : SF X (.Call (.Name x p) (e :: es) [] pos) (opN f as) := by
  obtain ⟨r, ho, v⟩ := c
  exact pe_wk (pe_callTy ho hg hm hv ha hn hdb he hpl) fun σ H Q q => opF_ok v σ H Q q
end

/-! ## tests -/
def boolT (f : ME) : MT := fun ρ => (f ρ).bind fun x => match x.1 with
  | .bool b => some (b, x.2)
  | _ => none
theorem boolT_ok {K : FragK} {f : ME} : ∀ (σ : L2.St) (H : Hp) (Q : Bool → Hp → Prop), tT K (boolT f) σ H Q → tE K f σ H fun x H1 => ∃ c, x = V.bl c ∧ Q c H1 := by
  rintro σ H Q ⟨M0, W0, O, ρ, b, ρ', r, e, q⟩
  simp only [boolT, Option.bind_eq_some_iff] at e
  obtain ⟨⟨d, ρ1⟩, e1, e2⟩ := e
  split at e2
  · rename_i c hd
    cases e2
    subst hd
    exact ⟨M0, W0, O, ρ, _, ρ1, r, e1, fun v H' O' r' x' p => ⟨_, by cases p; rfl, q H' O' r' x'⟩⟩
  · cases e2
/-- an expression that gives a bool, as a test (names, calls, subscripts ..) -/
theorem sb_val {e : Expr} {f : ME} (h : SE X e f) (he : ∀ whole, isTrue e X.env whole = (do let v ← whole; standAt e.pos; holding [v] (truthy v)) := by intro _; rfl) : SB X e (boolT f) :=
  pt_wk (pt_val h he) fun σ H Q q => boolT_ok σ H Q q
theorem sb_cmp {f : List D → Option D} {a b : Expr} {A B : AF} {pos : Pos} {op : CmpOp} (o : Op2 X (compareOp op) f) (ha : SA X a A) (hb : SA X b B) (hm : behindInMarks op b = false) : SB X (.Compare a [op] [b] pos) (boolT (opN f [A, B])) := by
  obtain ⟨r, ho, v⟩ := o
  exact pt_wk (pt_cmpR ho ha hb hm) fun σ H Q q => opN_ok v σ H _ (boolT_ok σ H Q q)
/-- its truth, of any value -/
def truD : D → Option Bool
  | .none => some false
  | .bool b => some b
  | .int i => some (i != 0)
  | .str x => if x.length ≤ sizeLine then some ((x.length : Int) != 0) else none
  | .list ds => some (!ds.isEmpty)
  | .tuple ds => some (!ds.isEmpty)
  | .dict ds => some (!ds.isEmpty)
/-- .. and, or, not -/
def andT (s t : MT) : MT := fun ρ => (s ρ).bind fun x => if x.1 = true then t x.2 else some (false, x.2)
def orT (s t : MT) : MT := fun ρ => (s ρ).bind fun x => if x.1 = true then some (true, x.2) else t x.2
def notT (s : MT) : MT := fun ρ => (s ρ).bind fun x => some (!x.1, x.2)
abbrev SW (X : Cx) (e : Expr) (f : MT) : Prop := PW X e (tT X.K f)
theorem pw_wk {e : Expr} {t t' : TT} (h : PW X e t) (w : ∀ σ H Q, t' σ H Q → t σ H Q) : PW X e t' := ⟨fun wh pins s σ H Q I q => h.run wh pins s σ H Q I (w σ H Q q)⟩
section
variable {s t : MT} {a b : Expr} {rest : List Expr} {pos : Pos}
theorem sw_and1 (h : SB X a s) : SW X (.BoolOp .And [a] pos) s := pw_and1 h
theorem sw_or1 (h : SB X a s) : SW X (.BoolOp .Or [a] pos) s := pw_or1 h
theorem sw_and (ha : SB X a s) (hb : SW X (.BoolOp .And (b :: rest) pos) t) : SW X (.BoolOp .And (a :: b :: rest) pos) (andT s t) := by
  refine pw_wk (pw_and ha hb) ?_
  rintro σ H Q ⟨M0, W0, O, ρ, c, ρ', r, e, q⟩
  simp only [andT, Option.bind_eq_some_iff] at e
  obtain ⟨⟨c1, ρ1⟩, e1, e2⟩ := e
  refine ⟨M0, W0, O, ρ, c1, ρ1, r, e1, fun H1 O1 r1 x1 => ?_⟩
  cases c1 with
  | true =>
    rw [if_pos rfl] at e2 ⊢
    exact ⟨M0, W0, O1, ρ1, c, ρ', r1, e2, fun H2 O2 r2 x2 => q H2 O2 r2 (x1.trans x2)⟩
  | false =>
    rw [if_neg Bool.false_ne_true] at e2 ⊢
    cases e2
    exact q H1 O1 r1 x1
theorem sw_or (ha : SB X a s) (hb : SW X (.BoolOp .Or (b :: rest) pos) t) : SW X (.BoolOp .Or (a :: b :: rest) pos) (orT s t) := by
  refine pw_wk (pw_or ha hb) ?_
  rintro σ H Q ⟨M0, W0, O, ρ, c, ρ', r, e, q⟩
  simp only [orT, Option.bind_eq_some_iff] at e
  obtain ⟨⟨c1, ρ1⟩, e1, e2⟩ := e
  refine ⟨M0, W0, O, ρ, c1, ρ1, r, e1, fun H1 O1 r1 x1 => ?_⟩
  cases c1 with
  | true =>
    rw [if_pos rfl] at e2 ⊢
    cases e2
    exact q H1 O1 r1 x1
  | false =>
    rw [if_neg Bool.false_ne_true] at e2 ⊢
    exact ⟨M0, W0, O1, ρ1, c, ρ', r1, e2, fun H2 O2 r2 x2 => q H2 O2 r2 (x1.trans x2)⟩
theorem sb_bool {e : Expr} (h : SW X e s) : SB X e s := h.pt
theorem sb_not (h : SB X a s) : SB X (.UnaryOp .Not a pos) (notT s) := by
  refine pt_wk (pt_not h) ?_
  rintro σ H Q ⟨M0, W0, O, ρ, c, ρ', r, e, q⟩
  simp only [notT, Option.bind_eq_some_iff] at e
  obtain ⟨⟨c1, ρ1⟩, e1, e2⟩ := e
  cases e2
  exact ⟨M0, W0, O, ρ, c1, ρ1, r, e1, q⟩
end
/-- as values; all but the last are bools -/
def andV (f g : ME) : ME := fun ρ => (f ρ).bind fun x => match x.1 with
  | .bool true => g x.2
  | .bool false => some (.bool false, x.2)
  | _ => none
def orV (f g : ME) : ME := fun ρ => (f ρ).bind fun x => match x.1 with
  | .bool true => some (.bool true, x.2)
  | .bool false => g x.2
  | _ => none
def notV (f : ME) : ME := fun ρ => (f ρ).bind fun x => match x.1 with
  | .bool b => some (.bool (!b), x.2)
  | _ => none
section
variable {f g : ME} {a b : Expr} {rest : List Expr} {pos : Pos}
theorem se_one {op : BoolOp} (h : SE X a f) : SE X (.BoolOp op [a] pos) f := pe_one h
theorem se_and (ha : SE X a f) (hb : SE X (.BoolOp .And (b :: rest) pos) g) : SE X (.BoolOp .And (a :: b :: rest) pos) (andV f g) := by
  refine pe_wk (pe_and ha hb) ?_
  rintro σ H Q ⟨M0, W0, O, ρ, d, ρ', r, e, q⟩
  simp only [andV, Option.bind_eq_some_iff] at e
  obtain ⟨⟨d1, ρ1⟩, e1, e2⟩ := e
  refine ⟨M0, W0, O, ρ, d1, ρ1, r, e1, fun v H1 O1 r1 x1 p1 => ?_⟩
  split at e2
  · rename_i hd; subst hd
    cases p1
    refine ⟨true, rfl, ?_⟩
    rw [if_pos rfl]
    exact ⟨M0, W0, O1, ρ1, d, ρ', r1, e2, fun v2 H2 O2 r2 x2 p2 => q v2 H2 O2 r2 (x1.trans x2) p2⟩
  · rename_i hd; subst hd
    cases p1; cases e2
    refine ⟨false, rfl, ?_⟩
    rw [if_neg Bool.false_ne_true]
    exact q _ H1 O1 r1 x1 (.bl false)
  · cases e2
theorem se_or (ha : SE X a f) (hb : SE X (.BoolOp .Or (b :: rest) pos) g) : SE X (.BoolOp .Or (a :: b :: rest) pos) (orV f g) := by
  refine pe_wk (pe_or ha hb) ?_
  rintro σ H Q ⟨M0, W0, O, ρ, d, ρ', r, e, q⟩
  simp only [orV, Option.bind_eq_some_iff] at e
  obtain ⟨⟨d1, ρ1⟩, e1, e2⟩ := e
  refine ⟨M0, W0, O, ρ, d1, ρ1, r, e1, fun v H1 O1 r1 x1 p1 => ?_⟩
  split at e2
  · rename_i hd; subst hd
    cases p1; cases e2
    refine ⟨true, rfl, ?_⟩
    rw [if_pos rfl]
    exact q _ H1 O1 r1 x1 (.bl true)
  · rename_i hd; subst hd
    cases p1
    refine ⟨false, rfl, ?_⟩
    rw [if_neg Bool.false_ne_true]
    exact ⟨M0, W0, O1, ρ1, d, ρ', r1, e2, fun v2 H2 O2 r2 x2 p2 => q v2 H2 O2 r2 (x1.trans x2) p2⟩
  · cases e2
theorem se_not (ha : SE X a f) : SE X (.UnaryOp .Not a pos) (notV f) := by
  refine pe_wk (pe_not ha) ?_
  rintro σ H Q ⟨M0, W0, O, ρ, d, ρ', r, e, q⟩
  simp only [notV, Option.bind_eq_some_iff] at e
  obtain ⟨⟨d1, ρ1⟩, e1, e2⟩ := e
  refine ⟨M0, W0, O, ρ, d1, ρ1, r, e1, fun v H1 O1 r1 x1 p1 => ?_⟩
  split at e2
  · rename_i hd; subst hd
    cases p1; cases e2
    exact ⟨_, rfl, q _ H1 O1 r1 x1 (.bl _)⟩
  · cases e2
/-- a if t else b -/
def ifV (t : MT) (f g : ME) : ME := fun ρ => (t ρ).bind fun x => if x.1 = true then f x.2 else g x.2
theorem se_if {c : Expr} {t : MT} (hc : SB X c t) (ha : SE X a f) (hb : SE X b g) : SE X (.IfExp c a b pos) (ifV t f g) := by
  refine pe_wk (pe_ifExp hc ha hb) ?_
  rintro σ H Q ⟨M0, W0, O, ρ, d, ρ', r, e, q⟩
  simp only [ifV, Option.bind_eq_some_iff] at e
  obtain ⟨⟨c1, ρ1⟩, e1, e2⟩ := e
  refine ⟨M0, W0, O, ρ, c1, ρ1, r, e1, fun H1 O1 r1 x1 => ?_⟩
  cases c1 with
  | true =>
    rw [if_pos rfl] at e2 ⊢
    exact ⟨M0, W0, O1, ρ1, d, ρ', r1, e2, fun v H2 O2 r2 x2 p => q v H2 O2 r2 (x1.trans x2) p⟩
  | false =>
    rw [if_neg Bool.false_ne_true] at e2 ⊢
    exact ⟨M0, W0, O1, ρ1, d, ρ', r1, e2, fun v H2 O2 r2 x2 p => q v H2 O2 r2 (x1.trans x2) p⟩
end
/-- a < b < c -/
def chainV (f g : List D → Option D) (a b c : ME) : ME := fun ρ => (a ρ).bind fun x => (b x.2).bind fun y => (f [x.1, y.1]).bind fun z => match z with
  | .bool true => (c y.2).bind fun w => (g [y.1, w.1]).bind fun d => some (d, w.2)
  | .bool false => some (.bool false, y.2)
  | _ => none
theorem chain_ok {K : FragK} {r r' : R2} {f g : List D → Option D} {a b c : ME} (v : VOk K (l2 r) f) (v' : VOk K (l2 r') g) : ∀ (σ : L2.St) (H : Hp) (Q : VK), tE K (chainV f g a b c) σ H Q → tChain r r' (tE K a) (tE K b) (tE K c) σ H Q := by
  rintro σ H Q ⟨M0, W0, O, ρ, d, ρ', rel, e, q⟩
  simp only [chainV, Option.bind_eq_some_iff] at e
  obtain ⟨⟨d1, ρ1⟩, e1, ⟨d2, ρ2⟩, e2, z, e3, e4⟩ := e
  refine ⟨M0, W0, O, ρ, d1, ρ1, rel, e1, fun x H1 O1 r1 x1 p1 => ⟨M0, W0, O1, ρ1, d2, ρ2, r1, e2, fun y H2 O2 r2 x2 p2 => ?_⟩⟩
  have p1' := p1.stab (x2.stab r1.wsub)
  refine v _ H2 [x, y] [d1, d2] z _ r2.mDom (.cons (.val p1') (.cons (.val p2) .nil)) e3 fun u H3 s3 p3 => ?_
  have r3 := r2.same s3
  have x3 : Ext W0 O H O2 H3 := (x1.trans x2).trans (.same s3)
  split at e4
  · cases p3
    refine ⟨true, rfl, ?_⟩
    rw [if_pos rfl]
    simp only [Option.bind_eq_some_iff] at e4
    obtain ⟨⟨d3, ρ3⟩, e5, d4, e6, e7⟩ := e4
    cases e7
    refine ⟨M0, W0, O2, ρ2, d3, ρ3, r3, e5, fun w H4 O4 r4 x4 p4 => ?_⟩
    refine v' _ H4 [y, w] [d2, d3] d Q r4.mDom (.cons (.val ((p2.stab (.same s3)).stab (x4.stab r3.wsub))) (.cons (.val p4) .nil)) e6 fun u5 H5 s5 p5 => ?_
    exact q u5 H5 O4 (r4.same s5) ((x3.trans x4).trans (.same s5)) p5
  · cases p3
    cases e4
    refine ⟨false, rfl, ?_⟩
    rw [if_neg Bool.false_ne_true]
    exact q _ H3 O2 r3 x3 (.bl false)
  · cases e4
section
variable {fo go : List D → Option D} {f g h : ME} {a b c : Expr} {pos : Pos} {op op' : CmpOp}
theorem se_chain (o : Op2 X (compareOp op) fo) (o' : Op2 X (compareOp op') go) (ha : SE X a f) (hb : SE X b g) (hc : SE X c h) (hm : lastMarks [op, op'] [b, c] = false := by with_unfolding_all rfl) : SE X (.Compare a [op, op'] [b, c] pos) (chainV fo go f g h) := by
  obtain ⟨r, ho, v⟩ := o
  obtain ⟨r', ho', v'⟩ := o'
  exact pe_wk (pe_chain ho ho' ha hb hc hm) fun σ H Q q => chain_ok v v' σ H Q q
theorem sb_chain (o : Op2 X (compareOp op) fo) (o' : Op2 X (compareOp op') go) (ha : SE X a f) (hb : SE X b g) (hc : SE X c h) (hm : lastMarks [op, op'] [b, c] = false := by with_unfolding_all rfl) : SB X (.Compare a [op, op'] [b, c] pos) (boolT (chainV fo go f g h)) := by
  obtain ⟨r, ho, v⟩ := o
  obtain ⟨r', ho', v'⟩ := o'
  exact pt_wk (pt_chain ho ho' ha hb hc hm) fun σ H Q q => chain_ok v v' σ H _ (boolT_ok σ H Q q)
end
end
end MP

set_option maxRecDepth 100000
namespace MP
open PySem PySem.Spec PyProof.Rows L2

/-! ## arithmetic -/
def addD : List D → Option D
  | [.int i, .int j] => some (.int (i + j))
  | [.str a, .str b] => if a.length + b.length ≤ sizeLine then some (.str (a ++ b)) else none
  | [.tuple a, .tuple b] => if a.isEmpty = false ∧ a.length + b.length ≤ sizeLine then some (.tuple (a ++ b)) else none
  | [.list a, .list b] => if a.length + b.length ≤ sizeLine then some (.list (a ++ b)) else none
  | _ => none
/-- list + list alone -/
def catD : List D → Option D
  | [.list a, .list b] => if a.length + b.length ≤ sizeLine then some (.list (a ++ b)) else none
  | _ => none
def subD : List D → Option D
  | [.int i, .int j] => some (.int (i - j))
  | _ => none
/-- the sizes up to which numbers are multiplied here, and by which they are divided -/
def mulB : Nat := 2 ^ 100000
def divB : Nat := 2 ^ 9000
def mulD : List D → Option D
  | [.int i, .int j] => if i.natAbs < mulB ∧ j.natAbs < mulB then some (.int (i * j)) else none
  | [.list a, .int k] => if -(2 ^ 63) ≤ k ∧ k < 2 ^ 63 ∧ a.length * k.toNat ≤ sizeLine then some (.list (List.replicate k.toNat a).flatten) else none
  | _ => none
def repD : List D → Option D
  | [.list a, .int k] => if -(2 ^ 63) ≤ k ∧ k < 2 ^ 63 ∧ a.length * k.toNat ≤ sizeLine then some (.list (List.replicate k.toNat a).flatten) else none
  | _ => none
def fdivD : List D → Option D
  | [.int i, .int j] => if 0 < j ∧ j.natAbs < divB then some (.int (i / j)) else none
  | _ => none
def modD : List D → Option D
  | [.int i, .int j] => if 0 < j then some (.int (i % j)) else none
  | _ => none
def negD : List D → Option D
  | [.int i] => some (.int (-i))
  | _ => none

def rCatX (K : FragK) : R2 := fun x y H Q => ∃ l b xs zs, x = V.ref l ∧ y = V.ref b ∧ LstX K H l xs ∧ LstX K H b zs ∧ xs.length + zs.length ≤ sizeLine ∧ ∀ p, H p = none → Q (.ref p) (upd H p (.lst (xs ++ zs)))
def rRepX (K : FragK) : R2 := fun x y H Q => ∃ l k xs, x = V.ref l ∧ y = V.int k ∧ LstX K H l xs ∧ -(2 ^ 63) ≤ k ∧ k < 2 ^ 63 ∧ xs.length * k.toNat ≤ sizeLine ∧
  ∀ p, H p = none → Q (.ref p) (upd H p (.lst (List.replicate k.toNat xs).flatten))
theorem same_upd {H : Hp} {p : Addr} {o : HO} (h : H p = none) : Same H (upd H p o) := fun b x e => by
  rw [upd_ne (ne_of_none e h)]
  exact e
section
variable {X : Cx}
theorem op_catX : OpR X (binaryOp .Add) (rCatX X.K) := by
  intro pins s σ H x y v u Q I rx ry h
  obtain ⟨l, b, xs, zs, rfl, rfl, hH, hB, hz, q⟩ := h
  cases rx
  cases ry
  obtain ⟨z, its, n, r, e⟩ := hH.obj I
  obtain ⟨z2, its2, n2, r2, e2⟩ := hB.obj I
  have hl := r.length
  have hl2 := r2.length
  refine PySem.P.add_list e e2 ?_ (by rw [List.size_toArray, List.size_toArray]; omega)
  have ea : its.toArray ++ its2.toArray = (its ++ its2).toArray := by simp
  rw [ea]
  exact ⟨.ref _, _, I.lnew (t' := s.toks) (r.append r2) (by rw [List.length_append]; omega), rfl, q _ I.fresh⟩
theorem op_repX : OpR X (binaryOp .Mult) (rRepX X.K) := by
  intro pins s σ H x y v u Q I rx ry h
  obtain ⟨l, k, xs, rfl, rfl, hH, h1, h2, hz, q⟩ := h
  cases rx
  obtain ⟨t, rfl⟩ := ry
  obtain ⟨z, its, n, r, e⟩ := hH.obj I
  have hl := r.length
  have hlen : its.toArray.size * k.toNat ≤ sizeLine := by rw [List.size_toArray, ← hl]; exact hz
  have hcap : ¬ its.toArray.size * k.toNat > (2 ^ 63 - 1) / 8 := by
    have : (sizeLine : Nat) ≤ (2 ^ 63 - 1) / 8 := by decide
    omega
  have hfit : ¬ (!Builtin.List.listFitsIndex k) = true := by
    rw [fitsIndex_both h1 h2]
    exact Bool.false_ne_true
  have hlong : ¬ Builtin.List.listTooLong (its.toArray.size * k.toNat) = true := by
    rw [notLongL hlen]
    exact Bool.false_ne_true
  have f0 : ∀ m : Nat, List.foldl (fun x1 x2 => x1 ++ x2) #[] (List.replicate m its.toArray) = (List.replicate m its).flatten.toArray := fun m => by
    have := foldl_rep its m []
    rw [List.nil_append] at this
    exact this
  have hnew : List.foldl (fun x1 x2 => x1 ++ x2) #[] (List.replicate (if its.toArray.isEmpty = true then 0 else k.toNat) its.toArray) = (List.replicate k.toNat its).flatten.toArray := by
    rw [f0]
    cases its with
    | nil => simp
    | cons a r' => rw [if_neg (by simp)]
  refine wpAny_binaryOp_repeat_ref (T := "list") (U := "int") (by decide) ⟨_, e, rfl⟩ (fun s' => typeIs_int s' k t) noFill_list_mul F.fills_int_mul F.slot_int_rmul repeat_list F.slot_int_index.lookup ?_
  refine call_meets F.slot_int_rmul (typeIs_int s k t) F.entry_int_rmul (F.args_int_rmul_2 _ _) (int___rmul___int_list k t l its.toArray n) ⟨e, rfl, ⟨_, e, rfl⟩, ?_⟩
  refine call_meets F.slot_list_mul ⟨_, e, rfl⟩ F.entry_list_mul (F.args_list_mul_2 _ _) (AutoListH.list___mul___list_int_3 l its.toArray n k t hfit hcap hlong) ⟨e, ?_⟩
  rw [hnew]
  exact ⟨.ref _, _, I.lnew (t' := s.toks) (r.rep k.toNat) (by rw [PyProof.Rows.lm_len_rep_flat, Nat.mul_comm]; exact hz), rfl, q _ I.fresh⟩

theorem Rps.ne {K : FragK} {M : AS} {H : Hp} {vs : List V} {ds : List D} (r : Rps K M H vs ds) (h : ds.isEmpty = false) : vs ≠ [] := by
  cases r with
  | nil => cases h
  | cons _ _ => simp
theorem rtup_same {K : FragK} {M : AS} {H : Hp} {v : V} {ds : List D} (h : Rt K M H v (.tuple ds)) : Rp K M H v (.tuple ds) := by
  cases h with
  | val h => exact h
  | own w => cases w
theorem new_lst {K : FragK} {M : AS} {H : Hp} {p : Addr} {xs : List V} {ds : List D} (r : Rps K M H xs ds) : Nw K M H (upd H p (.lst xs)) p (.list ds) := .lst upd_same r
theorem rp_tup {K : FragK} {M : AS} {H : Hp} {p : Addr} {xs : List V} {ds : List D} (m : MDom M H) (n : H p = none) (r : Rps K M H xs ds) : Rp K M (upd H p (.tup xs)) (.ref p) (.tuple ds) :=
  .tup (.inl ⟨m.new n, .inl upd_same⟩) (r.stab (.same (same_upd n)))

theorem cat_F : FOk X.K (l2 (rCatX X.K)) catD := by
  intro M H xs ds d Q m p e q
  unfold catD at e
  split at e
  · rename_i a b
    obtain ⟨x, y, rfl, h1, h2⟩ := p.two
    obtain ⟨l, us, rfl, L1, r1⟩ := h1.lst'
    obtain ⟨k, ws, rfl, L2, r2⟩ := h2.lst'
    split at e
    · cases e
      rename_i hz
      refine ⟨l, k, us, ws, rfl, rfl, L1, L2, by rw [r1.length, r2.length]; exact hz, fun p np => ?_⟩
      exact q p H _ (fun _ _ h => h) (same_upd np) np (new_lst (r1.append r2))
    · cases e
  · cases e
theorem add_ok : Op2 X (binaryOp .Add) addD := by
  refine ⟨_, OpR.or' op_add (OpR.or' op_add_str (OpR.or' op_catT op_catX)), fun M H xs ds d Q m p e q => ?_⟩
  unfold addD at e
  split at e
  · obtain ⟨x, y, rfl, h1, h2⟩ := p.two
    obtain rfl := h1.int'
    obtain rfl := h2.int'
    cases e
    exact .inl ⟨_, _, rfl, rfl, q _ H (fun _ _ h => h) (.int _)⟩
  · obtain ⟨x, y, rfl, h1, h2⟩ := p.two
    obtain rfl := h1.str'
    obtain rfl := h2.str'
    split at e
    · cases e
      rename_i hz
      exact .inr (.inl ⟨_, _, rfl, rfl, hz, q _ H (fun _ _ h => h) (.str _)⟩)
    · cases e
  · obtain ⟨x, y, rfl, h1, h2⟩ := p.two
    have h1s := rtup_same h1
    obtain ⟨l, us, rfl, L1, r1⟩ := h1.tup'
    obtain ⟨k, ws, rfl, L2, r2⟩ := h2.tup'
    split at e
    · cases e
      rename_i hz
      refine .inr (.inr (.inl ⟨l, k, us, ws, rfl, rfl, L1.sq, L2.sq, r1.ne hz.1, by rw [r1.length, r2.length]; exact hz.2, fun e2 => ?_, fun _ p np => ?_⟩))
      · subst e2
        cases r2
        rw [List.append_nil] at q
        exact q _ H (fun _ _ h => h) h1s
      · exact q _ _ (same_upd np) (rp_tup m np (r1.append r2))
    · cases e
  · rename_i a b
    have := (cat_F (X := X)).v M H xs [.list a, .list b] d Q m p e q
    obtain ⟨x, y, rfl, _, _⟩ := p.two
    exact .inr (.inr (.inr this))
  · cases e
theorem cat_okF : Op2F X (binaryOp .Add) catD := ⟨_, op_catX, cat_F⟩
theorem sub_ok : Op2 X (binaryOp .Sub) subD := by
  refine ⟨_, op_sub, fun M H xs ds d Q m p e q => ?_⟩
  unfold subD at e
  split at e
  · obtain ⟨x, y, rfl, h1, h2⟩ := p.two
    obtain rfl := h1.int'
    obtain rfl := h2.int'
    cases e
    exact ⟨_, _, rfl, rfl, q _ H (fun _ _ h => h) (.int _)⟩
  · cases e
theorem mulx {i j : Int} (h : i.natAbs < mulB ∧ j.natAbs < mulB) : CMulX i j := mulx_ok h.1 h.2 (by decide)
theorem rep_F : FOk X.K (l2 (rRepX X.K)) repD := by
  intro M H xs ds d Q m p e q
  unfold repD at e
  split at e
  · rename_i a k
    obtain ⟨x, y, rfl, h1, h2⟩ := p.two
    obtain ⟨l, us, rfl, L1, r1⟩ := h1.lst'
    obtain rfl := h2.int'
    split at e
    · cases e
      rename_i hz
      refine ⟨l, k, us, rfl, rfl, L1, hz.1, hz.2.1, by rw [r1.length]; exact hz.2.2, fun p np => ?_⟩
      exact q p H _ (fun _ _ h => h) (same_upd np) np (new_lst (r1.rep _))
    · cases e
  · cases e
theorem mul_ok : Op2 X (binaryOp .Mult) mulD := by
  refine ⟨_, OpR.or' op_mulX op_repX, fun M H xs ds d Q m p e q => ?_⟩
  unfold mulD at e
  split at e
  · obtain ⟨x, y, rfl, h1, h2⟩ := p.two
    obtain rfl := h1.int'
    obtain rfl := h2.int'
    split at e
    · cases e
      rename_i hz
      exact .inl ⟨_, _, rfl, rfl, mulx hz, q _ H (fun _ _ h => h) (.int _)⟩
    · cases e
  · rename_i a k
    have := (rep_F (X := X)).v M H xs [.list a, .int k] d Q m p e q
    obtain ⟨x, y, rfl, _, _⟩ := p.two
    exact .inr this
  · cases e
theorem rep_okF : Op2F X (binaryOp .Mult) repD := ⟨_, op_repX, rep_F⟩
theorem fdiv_ok : Op2 X (binaryOp .FloorDiv) fdivD := by
  refine ⟨_, op_fdivW, fun M H xs ds d Q m p e q => ?_⟩
  unfold fdivD at e
  split at e
  · obtain ⟨x, y, rfl, h1, h2⟩ := p.two
    obtain rfl := h1.int'
    obtain rfl := h2.int'
    split at e
    · cases e
      rename_i hz
      exact ⟨_, _, rfl, rfl, wide_div hz.1 hz.2 (by decide) (by decide), q _ H (fun _ _ h => h) (.int _)⟩
    · cases e
  · cases e
theorem mod_ok : Op2 X (binaryOp .Mod) modD := by
  refine ⟨_, op_mod, fun M H xs ds d Q m p e q => ?_⟩
  unfold modD at e
  split at e
  · obtain ⟨x, y, rfl, h1, h2⟩ := p.two
    obtain rfl := h1.int'
    obtain rfl := h2.int'
    split at e
    · cases e
      rename_i hz
      exact ⟨_, _, rfl, rfl, hz, q _ H (fun _ _ h => h) (.int _)⟩
    · cases e
  · cases e
theorem neg_ok : Op1 X (unaryOp .USub) negD := by
  refine ⟨_, un_neg, fun M H xs ds d Q m p e q => ?_⟩
  unfold negD at e
  split at e
  · obtain ⟨x, rfl, h1⟩ := p.one
    obtain rfl := h1.int'
    cases e
    exact ⟨_, rfl, q _ H (fun _ _ h => h) (.int _)⟩
  · cases e

/-! ## comparisons -/
def eqD : List D → Option D
  | [a, b] => if SeqAt.shaped a = true ∧ SeqAt.shaped b = true then some (.bool (PyData.eqv a b)) else none
  | _ => none
def neD : List D → Option D
  | [a, b] => if SeqAt.shaped a = true ∧ SeqAt.shaped b = true then some (.bool (!PyData.eqv a b)) else none
  | _ => none
def ltS (a b : Str) : Bool := decide (a.cps.toList < b.cps.toList)
def ltD : List D → Option D
  | [.int i, .int j] => some (.bool (decide (i < j)))
  | [.str a, .str b] => some (.bool (ltS a b))
  | _ => none
def leD : List D → Option D
  | [.int i, .int j] => some (.bool (decide (i ≤ j)))
  | [.str a, .str b] => some (.bool (!ltS b a))
  | _ => none
def gtD : List D → Option D
  | [.int i, .int j] => some (.bool (decide (j < i)))
  | [.str a, .str b] => some (.bool (ltS b a))
  | _ => none
def geD : List D → Option D
  | [.int i, .int j] => some (.bool (decide (j ≤ i)))
  | [.str a, .str b] => some (.bool (!ltS a b))
  | _ => none
def isN : D → Bool
  | .none => true
  | _ => false
def isND : List D → Option D
  | [a, .none] => some (.bool (isN a))
  | _ => none
def notND : List D → Option D
  | [a, .none] => some (.bool (!isN a))
  | _ => none
theorem eq_ok (hu : X.A.units + 64 < cLine) : Op2 X (compareOp .Eq) eqD := by
  refine ⟨_, op_eqD hu, fun M H xs ds d Q m p e q => ?_⟩
  unfold eqD at e
  split at e
  · obtain ⟨x, y, rfl, h1, h2⟩ := p.two
    split at e
    · cases e
      rename_i hz
      exact ⟨_, _, h1.dp (SeqAt.canLay_of_shaped hz.1), h2.dp (SeqAt.canLay_of_shaped hz.2), hz.1, hz.2, q _ H (fun _ _ h => h) (.bl _)⟩
    · cases e
  · cases e
theorem ne_ok (hu : X.A.units + 64 < cLine) : Op2 X (compareOp .NotEq) neD := by
  refine ⟨_, op_neD hu, fun M H xs ds d Q m p e q => ?_⟩
  unfold neD at e
  split at e
  · obtain ⟨x, y, rfl, h1, h2⟩ := p.two
    split at e
    · cases e
      rename_i hz
      exact ⟨_, _, h1.dp (SeqAt.canLay_of_shaped hz.1), h2.dp (SeqAt.canLay_of_shaped hz.2), hz.1, hz.2, q _ H (fun _ _ h => h) (.bl _)⟩
    · cases e
  · cases e
theorem lt_ok : Op2 X (compareOp .Lt) ltD := by
  refine ⟨_, OpR.or' op_lt op_lt_str, fun M H xs ds d Q m p e q => ?_⟩
  unfold ltD at e
  split at e
  · obtain ⟨x, y, rfl, h1, h2⟩ := p.two
    obtain rfl := h1.int'
    obtain rfl := h2.int'
    cases e
    exact .inl ⟨_, _, rfl, rfl, q _ H (fun _ _ h => h) (.bl _)⟩
  · obtain ⟨x, y, rfl, h1, h2⟩ := p.two
    obtain rfl := h1.str'
    obtain rfl := h2.str'
    cases e
    exact .inr ⟨_, _, rfl, rfl, q _ H (fun _ _ h => h) (.bl _)⟩
  · cases e
theorem le_ok : Op2 X (compareOp .LtE) leD := by
  refine ⟨_, OpR.or' op_le op_le_str, fun M H xs ds d Q m p e q => ?_⟩
  unfold leD at e
  split at e
  · obtain ⟨x, y, rfl, h1, h2⟩ := p.two
    obtain rfl := h1.int'
    obtain rfl := h2.int'
    cases e
    exact .inl ⟨_, _, rfl, rfl, q _ H (fun _ _ h => h) (.bl _)⟩
  · obtain ⟨x, y, rfl, h1, h2⟩ := p.two
    obtain rfl := h1.str'
    obtain rfl := h2.str'
    cases e
    exact .inr ⟨_, _, rfl, rfl, q _ H (fun _ _ h => h) (.bl _)⟩
  · cases e
theorem gt_ok : Op2 X (compareOp .Gt) gtD := by
  refine ⟨_, OpR.or' op_gt op_gt_str, fun M H xs ds d Q m p e q => ?_⟩
  unfold gtD at e
  split at e
  · obtain ⟨x, y, rfl, h1, h2⟩ := p.two
    obtain rfl := h1.int'
    obtain rfl := h2.int'
    cases e
    exact .inl ⟨_, _, rfl, rfl, q _ H (fun _ _ h => h) (.bl _)⟩
  · obtain ⟨x, y, rfl, h1, h2⟩ := p.two
    obtain rfl := h1.str'
    obtain rfl := h2.str'
    cases e
    exact .inr ⟨_, _, rfl, rfl, q _ H (fun _ _ h => h) (.bl _)⟩
  · cases e
theorem ge_ok : Op2 X (compareOp .GtE) geD := by
  refine ⟨_, OpR.or' op_ge op_ge_str, fun M H xs ds d Q m p e q => ?_⟩
  unfold geD at e
  split at e
  · obtain ⟨x, y, rfl, h1, h2⟩ := p.two
    obtain rfl := h1.int'
    obtain rfl := h2.int'
    cases e
    exact .inl ⟨_, _, rfl, rfl, q _ H (fun _ _ h => h) (.bl _)⟩
  · obtain ⟨x, y, rfl, h1, h2⟩ := p.two
    obtain rfl := h1.str'
    obtain rfl := h2.str'
    cases e
    exact .inr ⟨_, _, rfl, rfl, q _ H (fun _ _ h => h) (.bl _)⟩
  · cases e
theorem isN_iff {K : FragK} {M : AS} {H : Hp} {v : V} {d : D} (h : Rt K M H v d) : decide (v = .non) = isN d := by
  cases h with
  | val h => cases h <;> simp [isN]
  | own w => cases w <;> simp [isN]
theorem isN_ok : Op2 X (compareOp .Is) isND := by
  refine ⟨_, op_isN, fun M H xs ds d Q m p e q => ?_⟩
  unfold isND at e
  split at e
  · obtain ⟨x, y, rfl, h1, h2⟩ := p.two
    obtain rfl := h2.non'
    cases e
    exact ⟨rfl, by rw [isN_iff h1]; exact q _ H (fun _ _ h => h) (.bl _)⟩
  · cases e
theorem notN_ok : Op2 X (compareOp .IsNot) notND := by
  refine ⟨_, op_notN, fun M H xs ds d Q m p e q => ?_⟩
  unfold notND at e
  split at e
  · obtain ⟨x, y, rfl, h1, h2⟩ := p.two
    obtain rfl := h2.non'
    cases e
    exact ⟨rfl, by rw [isN_iff h1]; exact q _ H (fun _ _ h => h) (.bl _)⟩
  · cases e
end
end MP

set_option maxRecDepth 100000
namespace MP
open PySem PySem.Spec PyProof.Rows L2

/-! ## dicts -/
def keyD : D → Option Key
  | .int i => some (.inl i)
  | .str x => some (.inr x)
  | _ => none
def eqK : D → D → Bool
  | .int i, .int j => decide (i = j)
  | .str x, .str y => decide (x = y)
  | _, _ => false
def lookD : List (D × D) → D → Option D
  | [], _ => none
  | (k, v) :: r, q => if eqK k q = true then some v else lookD r q
def putD (kvs : List (D × D)) (k v : D) : List (D × D) :=
  if (kvs.any fun kv => eqK kv.1 k) = true then kvs.map (fun kv => if eqK kv.1 k = true then (kv.1, v) else kv) else kvs ++ [(k, v)]
theorem keyD_kV {d : D} {k : Key} (h : keyD d = some k) : d = kD k := by
  unfold keyD at h
  split at h
  · cases h; rfl
  · cases h; rfl
  · cases h
theorem eqK_key (a b : Key) : eqK (kD a) (kD b) = decide (a = b) := by
  cases a <;> cases b <;> simp [kD, eqK]
theorem rp_key {K : FragK} {M : AS} {H : Hp} {v : V} {k : Key} (h : Rt K M H v (kD k)) : v = kV k := by
  cases k with
  | inl i => exact h.int'
  | inr x => exact h.str'
section
variable {K : FragK} {M : AS} {H : Hp}
theorem Rpd.look : ∀ {kvs : List (D × D)} {ys : List (Key × V)} {k : Key}, Rpd K M H ys kvs → (lookD kvs (kD k) = none ∧ valV ys k = none) ∨ ∃ d v, lookD kvs (kD k) = some d ∧ valV ys k = some v ∧ Rp K M H v d
  | _, _, k, .nil => .inl ⟨rfl, rfl⟩
  | _, _, k, .cons (k := k') (d := d) (v := v) h r => by
    by_cases e : k' = k
    · subst e
      exact .inr ⟨d, v, by simp [lookD, eqK_key], valV_pos rfl, h⟩
    · have e1 : eqK (kD k') (kD k) = false := by rw [eqK_key]; simp [e]
      rw [valV_neg (p := (k', v)) e]
      simp only [lookD, e1, Bool.false_eq_true, if_false]
      exact r.look
theorem Rpd.append : ∀ {ds es : List (D × D)} {vs ws : List (Key × V)}, Rpd K M H vs ds → Rpd K M H ws es → Rpd K M H (vs ++ ws) (ds ++ es)
  | _, _, _, _, .nil, s => s
  | _, _, _, _, .cons h r, s => .cons h (r.append s)
theorem Rpd.any {k : Key} : ∀ {kvs : List (D × D)} {ys : List (Key × V)}, Rpd K M H ys kvs → (kvs.any fun kv => eqK kv.1 (kD k)) = ys.any fun kv => decide (kv.1 = k)
  | _, _, .nil => rfl
  | _, _, .cons h r => by
    simp only [List.any_cons, eqK_key, r.any]
theorem Rpd.mapPut {k : Key} {v : V} {d : D} (h : Rp K M H v d) : ∀ {kvs : List (D × D)} {ys : List (Key × V)}, Rpd K M H ys kvs → Rpd K M H (ys.map fun kv => if kv.1 = k then (kv.1, v) else kv) (kvs.map fun kv => if eqK kv.1 (kD k) = true then (kv.1, d) else kv)
  | _, _, .nil => .nil
  | _, _, .cons (k := k') h' r => by
    simp only [List.map_cons, eqK_key, decide_eq_true_eq]
    by_cases e : k' = k
    · rw [if_pos e, if_pos e]
      exact .cons h (r.mapPut h)
    · rw [if_neg e, if_neg e]
      exact .cons h' (r.mapPut h)
theorem Rpd.put {k : Key} {v : V} {d : D} {kvs : List (D × D)} {ys : List (Key × V)} (r : Rpd K M H ys kvs) (h : Rp K M H v d) : Rpd K M H (putK ys k v) (putD kvs (kD k) d) := by
  unfold putK putD
  rw [r.any]
  split
  · exact r.mapPut h
  · exact r.append (.cons h .nil)
theorem Rpd.length : ∀ {ds : List (D × D)} {vs : List (Key × V)}, Rpd K M H vs ds → vs.length = ds.length
  | _, _, .nil => rfl
  | _, _, .cons _ r => by simp [r.length]
end

/-! ## items -/
def ixD : List D → Option D
  | [.list ds, .int i] => atI ds i
  | [.tuple ds, .int i] => atI ds i
  | [.str z, .int i] => if z.length ≤ sizeLine then (atI z.cps.toList i).map fun c => .str ⟨#[c]⟩ else none
  | [.dict kvs, k] => (keyD k).bind fun q => lookD kvs (kD q)
  | _ => none
theorem Rps.atI {K : FragK} {M : AS} {H : Hp} {ds : List D} {vs : List V} {i : Int} {d : D} (r : Rps K M H vs ds) (h : L2.atI ds i = some d) : ∃ v, L2.atI vs i = some v ∧ Rp K M H v d := by
  unfold L2.atI at h ⊢
  rw [r.length]
  cases e : ixN ds.length i with
  | none => rw [e] at h; cases h
  | some j =>
    rw [e] at h
    exact r.get h
def rIxDct : R2 := fun x y H Q => ∃ a v, x = V.ref a ∧ DGet H a y (some v) ∧ Q v H
section
variable {X : Cx}
theorem tail_of {prog : Program} {w : World} {A : Around} {E : Value → Shared → Prop} {s : Shared} {value slice : Expr} {T id : String} {o i : Value} {Q : Value → Shared → Prop}
    (hT : s.TypeIs o T) (hl : typeLookup (.type T) "__getitem__" = pure (some (.builtin id))) (hs : subscripted slice false o i = operate [o, i] (getItem o i))
    (h : wpAny (model prog w) A (getItem o i) Q E s) : wpAny (model prog w) A (subscriptTail value slice o i) Q E s := by
  unfold subscriptTail
  refine wpAny_bind ?_
  rw [getitemInPython_of_ne hT.not_modules]
  refine wpAny_bind (wpAny_specialOf hT hl ?_)
  have back : wpAny (model prog w) A (subscripted slice false o i) (fun r z => wpAny (model prog w) A (letTemporaryGo value o r >>= fun _ => pure r) Q E z) E s := by
    rw [hs]
    exact wpAny_operating (thn h fun r z hz => wpAny_bind (wpAny_letTemporaryGo (wpAny_pure hz)))
  first
    | exact wpAny_pure (wpAny_bind back)
    | exact wpAny_bind (wpAny_pure (wpAny_bind back))
    | exact wpAny_bind back
theorem ix_dct (hu : X.A.units + 1 < cLine) : IxR X rIxDct := by
  intro value slice pins s σ H x y v u Q I rx ry h hs
  obtain ⟨a, z, rfl, g, q⟩ := h
  cases rx
  refine tail_of (dict_typeIs I g) PySem.F.slot_dict_getitem.lookup hs ?_
  exact d_getItem hu I g ry fun w' s3 I3 rw' => ⟨z, H, I3, rw', q⟩
theorem ix_ok (hu : X.A.units + 1 < cLine) : Ixo X ixD := by
  refine ⟨_, ix_seq.or (ix_dct hu), fun M H xs ds d Q m p e q => ?_⟩
  unfold ixD at e
  split at e
  · obtain ⟨x, y, rfl, h1, h2⟩ := p.two
    obtain ⟨a, us, rfl, L, r⟩ := h1.lst'
    obtain rfl := h2.int'
    obtain ⟨v, ev, pv⟩ := r.atI e
    exact .inl (.inl ⟨a, us, _, v, rfl, rfl, L.sq, ev, q v H (fun _ _ h => h) pv⟩)
  · obtain ⟨x, y, rfl, h1, h2⟩ := p.two
    obtain ⟨a, us, rfl, L, r⟩ := h1.tup'
    obtain rfl := h2.int'
    obtain ⟨v, ev, pv⟩ := r.atI e
    exact .inl (.inr (.inl ⟨a, us, _, v, rfl, rfl, L.sq, ev, q v H (fun _ _ h => h) pv⟩))
  · obtain ⟨x, y, rfl, h1, h2⟩ := p.two
    obtain rfl := h1.str'
    obtain rfl := h2.int'
    split at e
    · rename_i hz
      obtain ⟨c, ec, rfl⟩ := Option.map_eq_some_iff.mp e
      exact .inl (.inr (.inr ⟨_, _, c, rfl, rfl, hz, ec, q _ H (fun _ _ h => h) (.str _)⟩))
    · cases e
  · rename_i kvs k _
    obtain ⟨x, y, rfl, h1, h2⟩ := p.two
    obtain ⟨a, ys, rfl, R, r⟩ := h1.dct'
    obtain ⟨kk, ek, e⟩ := Option.bind_eq_some_iff.mp e
    rw [keyD_kV ek] at h2
    obtain rfl := rp_key h2
    rcases r.look (k := kk) with ⟨e1, _⟩ | ⟨d', v, e1, e2, pv⟩
    · rw [e1] at e; cases e
    · rw [e1] at e; cases e
      exact .inr ⟨a, v, rfl, .inl ⟨ys, kk, R, rfl, e2.symm⟩, q v H (fun _ _ h => h) pv⟩
  · cases e

/-! ## in -/
def flatD : D → Bool
  | .none | .bool _ | .int _ | .str _ => true
  | _ => false
/-- membership -/
def inDB : D → D → Option Bool
  | a, .list ds => if SeqAt.shaped a = true ∧ SeqAt.shaped (.list ds) = true then some (ds.any fun z => PyData.eqv z a) else none
  | a, .tuple ds => if flatD a = true ∧ ds.all flatD = true then some (ds.any fun z => PyData.eqv z a) else none
  | .str c, .str z => if c.length = 1 then some (z.cps.toList.any fun x => c.cps.toList.contains x) else none
  | k, .dict kvs => (keyD k).map fun q => (lookD kvs (kD q)).isSome
  | _, _ => none
def inD : List D → Option D
  | [a, b] => (inDB a b).map .bool
  | _ => none
def notInD : List D → Option D
  | [a, b] => (inDB a b).map fun b => .bool (!b)
  | _ => none
theorem flat_rt {K : FragK} {M : AS} {H : Hp} {v : V} {d : D} (h : Rt K M H v d) (f : flatD d = true) : flatV v = true := by
  cases d with
  | none => rw [h.non']; rfl
  | bool b => rw [h.bl']; rfl
  | int i => rw [h.int']; rfl
  | str x => rw [h.str']; rfl
  | _ => cases f
theorem eqV_eqv {K : FragK} {M : AS} {H : Hp} {v w : V} {d e : D} (h : Rt K M H v d) (h' : Rt K M H w e) (f : flatD d = true) (f' : flatD e = true) : eqV v w = PyData.eqv d e := by
  cases d with
  | none => rw [h.non']; cases e with
    | none => rw [h'.non']; simp [eqV, PyData.eqv]
    | bool b => rw [h'.bl']; simp [eqV, PyData.eqv]
    | int i => rw [h'.int']; simp [eqV, PyData.eqv]
    | str x => rw [h'.str']; simp [eqV, PyData.eqv]
    | _ => cases f'
  | bool c => rw [h.bl']; cases e with
    | none => rw [h'.non']; simp [eqV, PyData.eqv]
    | bool b => rw [h'.bl']; simp [eqV, PyData.eqv]
    | int i => rw [h'.int']; simp [eqV, PyData.eqv]
    | str x => rw [h'.str']; simp [eqV, PyData.eqv]
    | _ => cases f'
  | int j => rw [h.int']; cases e with
    | none => rw [h'.non']; simp [eqV, PyData.eqv]
    | bool b => rw [h'.bl']; simp [eqV, PyData.eqv]
    | int i => rw [h'.int']; simp [eqV, PyData.eqv]
    | str x => rw [h'.str']; simp [eqV, PyData.eqv]
    | _ => cases f'
  | str y => rw [h.str']; cases e with
    | none => rw [h'.non']; simp [eqV, PyData.eqv]
    | bool b => rw [h'.bl']; simp [eqV, PyData.eqv]
    | int i => rw [h'.int']; simp [eqV, PyData.eqv]
    | str x => rw [h'.str']; simp [eqV, PyData.eqv]
    | _ => cases f'
  | _ => cases f
theorem flats {K : FragK} {M : AS} {H : Hp} {w : V} {e : D} (h' : Rt K M H w e) (f' : flatD e = true) : ∀ {ds : List D} {vs : List V}, Rps K M H vs ds → ds.all flatD = true → vs.all flatV = true ∧ (vs.any fun y => eqV y w) = ds.any fun z => PyData.eqv z e
  | _, _, .nil, _ => ⟨rfl, rfl⟩
  | _, _, .cons h r, f => by
    simp only [List.all_cons, Bool.and_eq_true] at f
    obtain ⟨i1, i2⟩ := flats h' f' r f.2
    exact ⟨by simp [flat_rt h.rt f.1, i1], by simp only [List.any_cons, eqV_eqv h.rt h' f.1 f', i2]⟩
def rInDct (neg : Bool) : R2 := fun x y H Q => ∃ a o, y = V.ref a ∧ DGet H a x o ∧ Q (.bl (if neg then !o.isSome else o.isSome)) H
theorem op_inDct (hu : X.A.units + 1 < cLine) : OpR X (compareOp .In) (rInDct false) := by
  intro pins s σ H x y v u Q I rx ry h
  obtain ⟨a, o, rfl, g, q⟩ := h
  cases ry
  exact d_in hu I g rx fun s3 I3 => ⟨.bl _, H, I3, rfl, q⟩
theorem op_notInDct (hu : X.A.units + 1 < cLine) : OpR X (compareOp .NotIn) (rInDct true) := by
  intro pins s σ H x y v u Q I rx ry h
  obtain ⟨a, o, rfl, g, q⟩ := h
  cases ry
  exact d_notIn hu I g rx fun s3 I3 => ⟨.bl _, H, I3, rfl, q⟩
theorem one_sign {c : Str} (h : c.length = 1) : ∃ n, c = ⟨#[n]⟩ := by
  obtain ⟨⟨l⟩⟩ := c
  match l, h with
  | [n], _ => exact ⟨n, rfl⟩
theorem in_ok (hu : X.A.units + 65 < cLine) : Op2 X (compareOp .In) inD := by
  refine ⟨_, OpR.or' (op_inD hu) (OpR.or' op_in_seq (OpR.or' op_in_sign (op_inDct (by omega)))), fun M H xs ds d Q m p e q => ?_⟩
  unfold inD at e
  split at e
  · obtain ⟨x, y, rfl, h1, h2⟩ := p.two
    obtain ⟨b, e0, hb⟩ := Option.map_eq_some_iff.mp e
    subst hb
    clear e
    unfold inDB at e0
    have e := e0
    split at e
    · split at e
      · cases e
        rename_i hz
        exact .inl ⟨_, _, h1.dp (SeqAt.canLay_of_shaped hz.1), h2.dp (SeqAt.canLay_of_shaped hz.2), hz.1, hz.2, q _ H (fun _ _ h => h) (.bl _)⟩
      · cases e
    · split at e
      · cases e
        rename_i hz
        obtain ⟨a, us, rfl, L, r⟩ := h2.tup'
        obtain ⟨f1, f2⟩ := flats h1 hz.1 r hz.2
        refine .inr (.inl ⟨a, us, rfl, .inr L.sq, flat_rt h1 hz.1, f1, ?_⟩)
        show Q (.bl (inV x us)) H
        rw [show inV x us = us.any fun y => eqV y x from rfl, f2]
        exact q _ H (fun _ _ h => h) (.bl _)
      · cases e
    · split at e
      · cases e
        rename_i c z hz
        obtain rfl := h1.str'
        obtain rfl := h2.str'
        obtain ⟨n, rfl⟩ := one_sign hz
        refine .inr (.inr (.inl ⟨n, z, rfl, rfl, ?_⟩))
        have : (z.cps.toList.any fun x => (⟨#[n]⟩ : Str).cps.toList.contains x) = decide (n ∈ z.cps.toList) := by
          rw [Bool.eq_iff_iff, List.any_eq_true, decide_eq_true_eq]
          constructor
          · rintro ⟨x, hx, hc⟩
            have : x = n := by simpa using hc
            exact this ▸ hx
          · exact fun h => ⟨n, h, by simp⟩
        rw [← this]
        exact q _ H (fun _ _ h => h) (.bl _)
      · cases e
    · rename_i k kvs _ _ _
      obtain ⟨kk, ek, hb⟩ := Option.map_eq_some_iff.mp e
      subst hb
      obtain ⟨a, ys, rfl, R, r⟩ := h2.dct'
      rw [keyD_kV ek] at h1
      obtain rfl := rp_key h1
      refine .inr (.inr (.inr ⟨a, valV ys kk, rfl, .inl ⟨ys, kk, R, rfl, rfl⟩, ?_⟩))
      rw [if_neg Bool.false_ne_true]
      rcases r.look (k := kk) with ⟨e1, e2⟩ | ⟨d', v, e1, e2, pv⟩
      · rw [e2]
        rw [e1] at q
        exact q _ H (fun _ _ h => h) (.bl _)
      · rw [e2]
        rw [e1] at q
        exact q _ H (fun _ _ h => h) (.bl _)
    · cases e
  · cases e
theorem notIn_ok (hu : X.A.units + 65 < cLine) : Op2 X (compareOp .NotIn) notInD := by
  refine ⟨_, OpR.or' (op_notInD hu) (OpR.or' op_notIn_seq (OpR.or' op_notIn_sign (op_notInDct (by omega)))), fun M H xs ds d Q m p e q => ?_⟩
  unfold notInD at e
  split at e
  · obtain ⟨x, y, rfl, h1, h2⟩ := p.two
    obtain ⟨b, e0, hb⟩ := Option.map_eq_some_iff.mp e
    subst hb
    clear e
    unfold inDB at e0
    have e := e0
    split at e
    · split at e
      · cases e
        rename_i hz
        exact .inl ⟨_, _, h1.dp (SeqAt.canLay_of_shaped hz.1), h2.dp (SeqAt.canLay_of_shaped hz.2), hz.1, hz.2, q _ H (fun _ _ h => h) (.bl _)⟩
      · cases e
    · split at e
      · cases e
        rename_i hz
        obtain ⟨a, us, rfl, L, r⟩ := h2.tup'
        obtain ⟨f1, f2⟩ := flats h1 hz.1 r hz.2
        refine .inr (.inl ⟨a, us, rfl, .inr L.sq, flat_rt h1 hz.1, f1, ?_⟩)
        show Q (.bl (!inV x us)) H
        rw [show inV x us = us.any fun y => eqV y x from rfl, f2]
        exact q _ H (fun _ _ h => h) (.bl _)
      · cases e
    · split at e
      · cases e
        rename_i c z hz
        obtain rfl := h1.str'
        obtain rfl := h2.str'
        obtain ⟨n, rfl⟩ := one_sign hz
        refine .inr (.inr (.inl ⟨n, z, rfl, rfl, ?_⟩))
        have : (z.cps.toList.any fun x => (⟨#[n]⟩ : Str).cps.toList.contains x) = decide (n ∈ z.cps.toList) := by
          rw [Bool.eq_iff_iff, List.any_eq_true, decide_eq_true_eq]
          constructor
          · rintro ⟨x, hx, hc⟩
            have : x = n := by simpa using hc
            exact this ▸ hx
          · exact fun h => ⟨n, h, by simp⟩
        rw [← this]
        exact q _ H (fun _ _ h => h) (.bl _)
      · cases e
    · rename_i k kvs _ _ _
      obtain ⟨kk, ek, hb⟩ := Option.map_eq_some_iff.mp e
      subst hb
      obtain ⟨a, ys, rfl, R, r⟩ := h2.dct'
      rw [keyD_kV ek] at h1
      obtain rfl := rp_key h1
      refine .inr (.inr (.inr ⟨a, valV ys kk, rfl, .inl ⟨ys, kk, R, rfl, rfl⟩, ?_⟩))
      rw [if_pos rfl]
      rcases r.look (k := kk) with ⟨e1, e2⟩ | ⟨d', v, e1, e2, pv⟩
      · rw [e2]
        rw [e1] at q
        exact q _ H (fun _ _ h => h) (.bl _)
      · rw [e2]
        rw [e1] at q
        exact q _ H (fun _ _ h => h) (.bl _)
    · cases e
  · cases e

/-! ## built-ins -/
def lenD : List D → Option D
  | [.list ds] => some (.int ds.length)
  | [.tuple ds] => some (.int ds.length)
  | [.str z] => if z.length ≤ sizeLine then some (.int z.length) else none
  | [.dict kvs] => some (.int kvs.length)
  | _ => none
def absD : List D → Option D
  | [.int i] => some (.int i.natAbs)
  | _ => none
def max2D : List D → Option D
  | [.int i, .int j] => some (.int (max i j))
  | _ => none
def min2D : List D → Option D
  | [.int i, .int j] => some (.int (min i j))
  | _ => none
def intD : List D → Option D
  | [.int i] => some (.int i)
  | [.bool b] => some (.int (if b then 1 else 0))
  | _ => none
def listD : List D → Option D
  | [.list ds] => some (.list ds)
  | [.tuple ds] => some (.list ds)
  | _ => none
def tupleD : List D → Option D
  | [.list ds] => some (.tuple ds)
  | [.tuple ds] => some (.tuple ds)
  | _ => none
theorem call_lenX : CallR X (.builtin "len") (fun xs H Q => ∃ a kvs, xs = [V.ref a] ∧ Rd H a (.dK kvs) ∧ Q (.int (kvs.length : Nat)) H) := by
  intro pins s σ H xs us Q I r h
  obtain ⟨a, kvs, rfl, ha, q⟩ := h
  obtain ⟨u, rfl, ru⟩ := vals1 r
  cases ru
  exact d_len I ha fun t s' I' => ⟨.int (kvs.length : Nat), H, I', ⟨t, rfl⟩, q⟩
theorem len_ok : Cal X (.builtin "len") lenD := by
  refine ⟨_, CallR.or call_len call_lenX, fun M H xs ds d Q m p e q => ?_⟩
  unfold lenD at e
  split at e
  · obtain ⟨x, rfl, h1⟩ := p.one
    obtain ⟨a, us, rfl, L, r⟩ := h1.lst'
    cases e
    refine .inl ⟨_, us.length, rfl, .inl ⟨us, L.sq, rfl⟩, ?_⟩
    rw [r.length]
    exact q _ H (fun _ _ h => h) (.int _)
  · obtain ⟨x, rfl, h1⟩ := p.one
    obtain ⟨a, us, rfl, L, r⟩ := h1.tup'
    cases e
    refine .inl ⟨_, us.length, rfl, .inr ⟨us, L.sq, rfl⟩, ?_⟩
    rw [r.length]
    exact q _ H (fun _ _ h => h) (.int _)
  · obtain ⟨x, rfl, h1⟩ := p.one
    obtain rfl := h1.str'
    split at e
    · cases e
      rename_i hz
      exact .inl ⟨_, _, rfl, ⟨hz, rfl⟩, q _ H (fun _ _ h => h) (.int _)⟩
    · cases e
  · obtain ⟨x, rfl, h1⟩ := p.one
    obtain ⟨a, ys, rfl, R, r⟩ := h1.dct'
    cases e
    refine .inr ⟨a, ys, rfl, R, ?_⟩
    rw [r.length]
    exact q _ H (fun _ _ h => h) (.int _)
  · cases e
theorem abs_ok : Cal X (.builtin "abs") absD := by
  refine ⟨_, call_abs, fun M H xs ds d Q m p e q => ?_⟩
  unfold absD at e
  split at e
  · rename_i i
    obtain ⟨x, rfl, h1⟩ := p.one
    obtain rfl := h1.int'
    cases e
    refine ⟨i, rfl, ?_⟩
    rw [show (if i < 0 then -i else i) = (i.natAbs : Int) by split <;> omega]
    exact q _ H (fun _ _ h => h) (.int _)
  · cases e
theorem max2_ok (hc : X.calm = true) : Cal X (.builtin "max") max2D := by
  refine ⟨_, call_max2 hc, fun M H xs ds d Q m p e q => ?_⟩
  unfold max2D at e
  split at e
  · rename_i i j
    obtain ⟨x, y, rfl, h1, h2⟩ := p.two
    obtain rfl := h1.int'
    obtain rfl := h2.int'
    cases e
    refine ⟨i, j, rfl, ?_⟩
    rw [show (if j > i then j else i) = max i j by split <;> omega]
    exact q _ H (fun _ _ h => h) (.int _)
  · cases e
theorem min2_ok (hc : X.calm = true) : Cal X (.builtin "min") min2D := by
  refine ⟨_, call_min2 hc, fun M H xs ds d Q m p e q => ?_⟩
  unfold min2D at e
  split at e
  · rename_i i j
    obtain ⟨x, y, rfl, h1, h2⟩ := p.two
    obtain rfl := h1.int'
    obtain rfl := h2.int'
    cases e
    refine ⟨i, j, rfl, ?_⟩
    rw [show (if j < i then j else i) = min i j by split <;> omega]
    exact q _ H (fun _ _ h => h) (.int _)
  · cases e
theorem int_ok : Cal X (.type "int") intD := by
  refine ⟨_, call_int1, fun M H xs ds d Q m p e q => ?_⟩
  unfold intD at e
  split at e
  · obtain ⟨x, rfl, h1⟩ := p.one
    obtain rfl := h1.int'
    cases e
    exact .inl ⟨_, rfl, q _ H (fun _ _ h => h) (.int _)⟩
  · obtain ⟨x, rfl, h1⟩ := p.one
    obtain rfl := h1.bl'
    cases e
    exact .inr ⟨_, rfl, q _ H (fun _ _ h => h) (.int _)⟩
  · cases e
theorem list_F : FOk X.K (fun xs H Q => ∃ p ys, xs = [V.ref p] ∧ (SqL X.K H p ys ∨ SqT X.K H p ys) ∧ ∀ l, H l = none → Q (V.ref l) (upd H l (.lst ys))) listD := by
  intro M H xs ds d Q m p e q
  unfold listD at e
  split at e
  · obtain ⟨x, rfl, h1⟩ := p.one
    obtain ⟨a, us, rfl, L, r⟩ := h1.lst'
    cases e
    exact ⟨a, us, rfl, .inl L.sq, fun l nl => q l H _ (fun _ _ h => h) (same_upd nl) nl (new_lst r)⟩
  · obtain ⟨x, rfl, h1⟩ := p.one
    obtain ⟨a, us, rfl, L, r⟩ := h1.tup'
    cases e
    exact ⟨a, us, rfl, .inr L.sq, fun l nl => q l H _ (fun _ _ h => h) (same_upd nl) nl (new_lst r)⟩
  · cases e
theorem list_ok : Cal X (.type "list") listD := ⟨_, call_list_of, (list_F (X := X)).v⟩
theorem list_okF : CalF X (.type "list") listD := ⟨_, call_list_of, list_F⟩
theorem tuple_ok : Cal X (.type "tuple") tupleD := by
  refine ⟨_, call_tuple_of, fun M H xs ds d Q m p e q => ?_⟩
  unfold tupleD at e
  split at e
  · obtain ⟨x, rfl, h1⟩ := p.one
    obtain ⟨a, us, rfl, L, r⟩ := h1.lst'
    cases e
    exact ⟨a, us, rfl, .inl ⟨L.sq, fun l nl => q _ _ (same_upd nl) (rp_tup m nl r)⟩⟩
  · obtain ⟨x, rfl, h1⟩ := p.one
    have hs := rtup_same h1
    obtain ⟨a, us, rfl, L, r⟩ := h1.tup'
    cases e
    exact ⟨a, us, rfl, .inr ⟨L.sq, q _ H (fun _ _ h => h) hs⟩⟩
  · cases e
end
end MP

set_option maxRecDepth 100000
namespace MP
open PySem PySem.Spec PyProof.Rows L2

/-! ## values in a row; displays -/
def evV : List ME → Env' → Option (List D × Env')
  | [], ρ => some ([], ρ)
  | f :: r, ρ => (f ρ).bind fun x => (evV r x.2).bind fun y => some (x.1 :: y.1, y.2)
def tVs (K : FragK) : List ME → TA
  | [] => tNil
  | f :: r => tCons (tE K f) (tVs K r)
abbrev SVs (X : Cx) (es : List Expr) (fs : List ME) : Prop := PA X es (tVs X.K fs)
theorem vals_ok {K : FragK} {M0 W0 : AS} {σ : L2.St} : ∀ {fs : List ME} {O : AS} {ρ : Env'} {H : Hp} {ds : List D} {ρ' : Env'} {Q : List V → Hp → Prop}, Rel K M0 W0 O ρ σ H → evV fs ρ = some (ds, ρ') →
    (∀ xs H' O', Rel K M0 W0 O' ρ' σ H' → Ext W0 O H O' H' → Rps K (mm M0 O') H' xs ds → Q xs H') → tVs K fs σ H Q
  | [], O, ρ, H, ds, ρ', Q, r, e, q => by
    simp only [evV, Option.some.injEq, Prod.mk.injEq] at e
    obtain ⟨rfl, rfl⟩ := e
    exact q [] H O r .refl .nil
  | f :: fs, O, ρ, H, ds, ρ', Q, r, e, q => by
    simp only [evV, Option.bind_eq_some_iff] at e
    obtain ⟨⟨d, ρ1⟩, e1, ⟨ds2, ρ2⟩, e2, e3⟩ := e
    cases e3
    refine ⟨M0, W0, O, ρ, d, ρ1, r, e1, fun v H1 O1 r1 x1 p1 => ?_⟩
    refine vals_ok r1 e2 fun xs H2 O2 r2 x2 p2 => ?_
    exact q (v :: xs) H2 O2 r2 (x1.trans x2) (.cons (p1.stab (x2.stab r1.wsub)) p2)
theorem evV_length : ∀ {fs : List ME} {ρ : Env'} {ds : List D} {ρ' : Env'}, evV fs ρ = some (ds, ρ') → ds.length = fs.length
  | [], ρ, ds, ρ', e => by
    simp only [evV, Option.some.injEq, Prod.mk.injEq] at e
    rw [← e.1]; rfl
  | f :: fs, ρ, ds, ρ', e => by
    simp only [evV, Option.bind_eq_some_iff] at e
    obtain ⟨⟨d, ρ1⟩, e1, ⟨ds2, ρ2⟩, e2, e3⟩ := e
    cases e3
    simp [evV_length e2]
def tupV (fs : List ME) : ME := fun ρ => (evV fs ρ).bind fun x => some (.tuple x.1, x.2)
def lstV (fs : List ME) : ME := fun ρ => (evV fs ρ).bind fun x => some (.list x.1, x.2)
section
variable {X : Cx} {e : Expr} {es : List Expr} {f : ME} {fs : List ME} {pos : Pos}
theorem svs_nil : SVs X [] [] := pa_nil
theorem svs_cons (ha : SE X e f) (hr : SVs X es fs) (hs : starEach (e :: es) X.env = (false, eval e X.env) :: starEach es X.env := by rfl) : SVs X (e :: es) (f :: fs) := pa_cons ha hr hs
theorem se_tup {k : Nat} (h : SVs X es fs) (hl : fs.length ≤ 1000 := by decide) : SE X (.Tuple es k pos) (tupV fs) := by
  refine pe_wk (pe_tup h) ?_
  rintro σ H Q ⟨M0, W0, O, ρ, d, ρ', r, ev, q⟩
  simp only [tupV, Option.bind_eq_some_iff] at ev
  obtain ⟨⟨ds, ρ1⟩, e1, e2⟩ := ev
  cases e2
  refine vals_ok r e1 fun xs H1 O1 r1 x1 p1 => ⟨?_, fun p np => ?_⟩
  · rw [p1.length, evV_length e1]
    exact Nat.le_of_lt (small1000 hl)
  · exact q _ _ O1 (r1.same (same_upd np)) (x1.trans (.same (same_upd np))) (rp_tup r1.mDom np p1)
theorem sf_lst (h : SVs X es fs) (hl : fs.length ≤ 1000 := by decide) : SF X (.List es pos) (lstV fs) := by
  refine pe_wk (pe_lst h) ?_
  rintro σ H Q ⟨M0, W0, O, ρ, d, ρ', r, ev, q⟩
  simp only [lstV, Option.bind_eq_some_iff] at ev
  obtain ⟨⟨ds, ρ1⟩, e1, e2⟩ := ev
  cases e2
  refine vals_ok r e1 fun xs H1 O1 r1 x1 p1 => ⟨?_, fun p np => ?_⟩
  · rw [p1.length, evV_length e1]
    exact Nat.le_of_lt (small1000 hl)
  · obtain ⟨a1, a2, a3, a4⟩ := r1.alloc (same_upd np) np (new_lst p1)
    exact q p _ _ a1 (x1.trans a2) (.inr rfl) a3 a4
theorem se_lst (h : SVs X es fs) (hl : fs.length ≤ 1000 := by decide) : SE X (.List es pos) (lstV fs) := (sf_lst h hl).se
end

/-! ## slots are stored -/
section
variable {K : FragK} {M0 W0 O : AS} {ρ : Env'} {σ : L2.St} {H : Hp}
theorem mut_set {ρ : Env'} {k j : Nat} {c e : Cell} (h : (ρ.set k e)[j]? = some c) (hj : j ≠ k) : ρ[j]? = some c := by
  rwa [List.getElem?_set_ne (Ne.symm hj)] at h
theorem Rel.setSh (r : Rel K M0 W0 O ρ σ H) {k : Nat} {v : V} {d : D} (p : Rp K (mm M0 O) H v d) : Rel K M0 W0 O (ρ.set k (.sh d)) (σ.set k (some v)) H := by
  by_cases hk : k < ρ.length
  · have hk' : k < σ.length := by rw [← r.len]; exact hk
    refine ⟨r.wsub, r.mdom, r.disj, by simp [r.len], fun j e hj => ?_, fun j e hj => ?_, fun j e hj => ?_, fun i j c e q ne hi hj hc he s1 s2 => ?_⟩
    · by_cases ej : j = k
      · subst ej
        rw [List.getElem?_set_self hk] at hj; cases hj
        exact ⟨v, List.getElem?_set_self hk', p⟩
      · rw [List.getElem?_set_ne (Ne.symm ej)] at hj ⊢
        exact r.sh j e hj
    · by_cases ej : j = k
      · subst ej; rw [List.getElem?_set_self hk] at hj; cases hj
      · rw [List.getElem?_set_ne (Ne.symm ej)] at hj ⊢
        exact r.own j e hj
    · by_cases ej : j = k
      · subst ej; rw [List.getElem?_set_self hk] at hj; cases hj
      · rw [List.getElem?_set_ne (Ne.symm ej)] at hj ⊢
        exact r.io j e hj
    · by_cases ei : i = k
      · subst ei; rw [List.getElem?_set_self hk] at hi; cases hi; cases hc
      · by_cases ej : j = k
        · subst ej; rw [List.getElem?_set_self hk] at hj; cases hj; cases he
        · rw [List.getElem?_set_ne (Ne.symm ei)] at hi s1
          rw [List.getElem?_set_ne (Ne.symm ej)] at hj s2
          exact r.uniq i j c e q ne hi hj hc he s1 s2
  · rw [List.set_eq_of_length_le (by omega), List.set_eq_of_length_le (by rw [← r.len]; omega)]
    exact r
theorem Rel.setOwn (r : Rel K M0 W0 O ρ σ H) {k : Nat} {p : Addr} {d : D} (hp : O p) (u : ∀ (j : Nat) (c : Cell), ρ[j]? = some c → c.mut?.isSome = true → σ[j]? ≠ some (some (.ref p))) (w : Ow K (mm M0 O) H p d) :
    Rel K M0 W0 O (ρ.set k (.own d)) (σ.set k (some (.ref p))) H := by
  by_cases hk : k < ρ.length
  · have hk' : k < σ.length := by rw [← r.len]; exact hk
    refine ⟨r.wsub, r.mdom, r.disj, by simp [r.len], fun j e hj => ?_, fun j e hj => ?_, fun j e hj => ?_, fun i j c e q ne hi hj hc he s1 s2 => ?_⟩
    · by_cases ej : j = k
      · subst ej; rw [List.getElem?_set_self hk] at hj; cases hj
      · rw [List.getElem?_set_ne (Ne.symm ej)] at hj ⊢
        exact r.sh j e hj
    · by_cases ej : j = k
      · subst ej
        rw [List.getElem?_set_self hk] at hj; cases hj
        exact ⟨p, List.getElem?_set_self hk', hp, w⟩
      · rw [List.getElem?_set_ne (Ne.symm ej)] at hj ⊢
        exact r.own j e hj
    · by_cases ej : j = k
      · subst ej; rw [List.getElem?_set_self hk] at hj; cases hj
      · rw [List.getElem?_set_ne (Ne.symm ej)] at hj ⊢
        exact r.io j e hj
    · by_cases ei : i = k
      · subst ei
        rw [List.getElem?_set_self hk'] at s1
        cases s1
        rw [List.getElem?_set_ne ne] at hj s2
        exact u j e hj he s2
      · by_cases ej : j = k
        · subst ej
          rw [List.getElem?_set_self hk'] at s2
          cases s2
          rw [List.getElem?_set_ne (Ne.symm ei)] at hi s1
          exact u i c hi hc s1
        · rw [List.getElem?_set_ne (Ne.symm ei)] at hi s1
          rw [List.getElem?_set_ne (Ne.symm ej)] at hj s2
          exact r.uniq i j c e q ne hi hj hc he s1 s2
  · rw [List.set_eq_of_length_le (by omega), List.set_eq_of_length_le (by rw [← r.len]; omega)]
    exact r
/-- the object of a slot is written -/
theorem Rel.write (r : Rel K M0 W0 O ρ σ H) {k : Nat} {c c' : Cell} {p : Addr} {d' : D} {o : HO} (hk : ρ[k]? = some c) (hs : σ[k]? = some (some (.ref p)))
    (hc : (∃ d, c = .own d ∧ c' = .own d') ∨ ∃ d, c = .io d ∧ c' = .io d') (w : Ow K (mm M0 O) (upd H p o) p d') :
    Rel K M0 W0 O (ρ.set k c') σ (upd H p o) ∧ Ext W0 O H O (upd H p o) := by
  have hlt : k < ρ.length := (List.getElem?_eq_some_iff.mp hk).1
  have hm : c.mut?.isSome = true := by rcases hc with ⟨d, rfl, _⟩ | ⟨d, rfl, _⟩ <;> rfl
  have hin : mm M0 O p ∧ (W0 p ∨ O p) := by
    rcases hc with ⟨d, rfl, _⟩ | ⟨d, rfl, _⟩
    · obtain ⟨b, e1, ob, _⟩ := r.own k d hk
      rw [hs] at e1; cases e1
      exact ⟨.inr ob, .inr ob⟩
    · obtain ⟨b, e1, ob, _⟩ := r.io k d hk
      rw [hs] at e1; cases e1
      exact ⟨.inl (r.wsub _ ob), .inl ob⟩
  have st : Stab (mm M0 O) (mm M0 O) H (upd H p o) := fun a ob ha hma => ⟨by
    rw [upd_ne (show a ≠ p from fun z => hma (z ▸ hin.1))]
    exact ha, hma⟩
  have up : ∀ a, (∃ ob, H a = some ob) → ∃ ob, upd H p o a = some ob := fun a ⟨ob, ha⟩ => by
    by_cases z : a = p
    · subst z; exact ⟨o, upd_same⟩
    · exact ⟨ob, by rw [upd_ne z]; exact ha⟩
  refine ⟨⟨r.wsub, fun a ha => up a (r.mdom a ha), r.disj, by rw [List.length_set]; exact r.len, fun j e hj => ?_, fun j e hj => ?_, fun j e hj => ?_, fun i j e f q ne hi hj he hf s1 s2 => ?_⟩,
    ⟨fun a ob ha hw ho => by rw [upd_ne (show a ≠ p from fun z => by subst z; rcases hin.2 with z | z; exact hw z; exact ho z)]; exact ha, fun a ha => .inl ha, fun a ob ha => up a ⟨ob, ha⟩⟩⟩
  · by_cases ej : j = k
    · subst ej
      rw [List.getElem?_set_self hlt] at hj
      rcases hc with ⟨d, _, rfl⟩ | ⟨d, _, rfl⟩ <;> cases hj
    · rw [List.getElem?_set_ne (Ne.symm ej)] at hj
      obtain ⟨v, ev, pv⟩ := r.sh j e hj
      exact ⟨v, ev, pv.stab st⟩
  · by_cases ej : j = k
    · subst ej
      rw [List.getElem?_set_self hlt] at hj
      rcases hc with ⟨d, rfl, rfl⟩ | ⟨d, _, rfl⟩
      · cases hj
        obtain ⟨b, e1, ob, _⟩ := r.own j d hk
        rw [hs] at e1; cases e1
        exact ⟨_, hs, ob, w⟩
      · cases hj
    · rw [List.getElem?_set_ne (Ne.symm ej)] at hj
      obtain ⟨b, ev, ob, wv⟩ := r.own j e hj
      have nb : b ≠ p := fun z => by
        subst z
        exact r.uniq j k _ _ b ej hj hk rfl hm ev hs
      exact ⟨b, ev, ob, wv.stab st (upd_ne nb)⟩
  · by_cases ej : j = k
    · subst ej
      rw [List.getElem?_set_self hlt] at hj
      rcases hc with ⟨d, _, rfl⟩ | ⟨d, rfl, rfl⟩
      · cases hj
      · cases hj
        obtain ⟨b, e1, ob, _⟩ := r.io j d hk
        rw [hs] at e1; cases e1
        exact ⟨_, hs, ob, w⟩
    · rw [List.getElem?_set_ne (Ne.symm ej)] at hj
      obtain ⟨b, ev, ob, wv⟩ := r.io j e hj
      have nb : b ≠ p := fun z => by
        subst z
        exact r.uniq j k _ _ b ej hj hk rfl hm ev hs
      exact ⟨b, ev, ob, wv.stab st (upd_ne nb)⟩
  · have g : ∀ (j : Nat) (e : Cell), (ρ.set k c')[j]? = some e → e.mut?.isSome = true → ∃ e', ρ[j]? = some e' ∧ e'.mut?.isSome = true := fun j e hj he => by
      by_cases ej : j = k
      · subst ej; exact ⟨c, hk, hm⟩
      · rw [List.getElem?_set_ne (Ne.symm ej)] at hj
        exact ⟨e, hj, he⟩
    obtain ⟨e', h1, h2⟩ := g i e hi he
    obtain ⟨f', h3, h4⟩ := g j f hj hf
    exact r.uniq i j e' f' q ne h1 h3 h2 h4 s1 s2
end

/-! ## statements -/
theorem PostS.ext {K : FragK} {M0 W0 O O' : AS} {H H' : Hp} {E : Ends} {o : Out} (x : Ext W0 O H O' H') (h : PostS K M0 W0 O H E o) : PostS K M0 W0 O' H' E o := by
  cases o with
  | nx ρ => exact fun σ2 H2 O2 r2 x2 => h σ2 H2 O2 r2 (x.trans x2)
  | bk ρ => exact fun σ2 H2 O2 r2 x2 => h σ2 H2 O2 r2 (x.trans x2)
  | ct ρ => exact fun σ2 H2 O2 r2 x2 => h σ2 H2 O2 r2 (x.trans x2)
  | rt d ρ => exact fun v σ2 H2 O2 r2 x2 => h v σ2 H2 O2 r2 (x.trans x2)
  | rf d ρ => exact fun v σ2 H2 O2 r2 x2 => h v σ2 H2 O2 r2 (x.trans x2)
def skipM : MS := fun ρ => some (.nx ρ)
def seqM (a b : MS) : MS := fun ρ => (a ρ).bind fun o => match o with
  | .nx ρ1 => b ρ1
  | o => some o
def asgM (k : Nat) (f : ME) : MS := fun ρ => (f ρ).bind fun x => some (.nx (x.2.set k (.sh x.1)))
def asgF (k : Nat) (f : ME) : MS := fun ρ => (f ρ).bind fun x => some (.nx (x.2.set k (.own x.1)))
def exprM (f : ME) : MS := fun ρ => (f ρ).bind fun x => some (.nx x.2)
def retM (f : ME) : MS := fun ρ => (f ρ).bind fun x => some (.rt x.1 x.2)
def retF (f : ME) : MS := fun ρ => (f ρ).bind fun x => some (.rf x.1 x.2)
def retN : MS := fun ρ => some (.rt .none ρ)
def ifM (c : MT) (a b : MS) : MS := fun ρ => (c ρ).bind fun x => if x.1 = true then a x.2 else b x.2
def brkM : MS := fun ρ => some (.bk ρ)
def cntM : MS := fun ρ => some (.ct ρ)
section
variable {X : Cx} {s : Stmt} {ss ts : List Stmt} {a b : MS} {e : Expr} {f : ME} {pos : Pos}
theorem sss_nil : SSs X [] skipM := by
  refine pss_wk pss_nil ?_
  rintro E σ H ⟨M0, W0, O, ρ, o, r, ev, q⟩
  cases ev
  exact q σ H O r .refl
theorem sss_cons (h1 : SS X s a) (h2 : SSs X ss b) : SSs X (s :: ss) (seqM a b) := by
  refine pss_wk (pss_cons h1 h2) ?_
  rintro E σ H ⟨M0, W0, O, ρ, o, r, ev, q⟩
  simp only [seqM, Option.bind_eq_some_iff] at ev
  obtain ⟨o1, e1, e2⟩ := ev
  refine ⟨M0, W0, O, ρ, o1, r, e1, ?_⟩
  cases o1 with
  | nx ρ1 => exact fun σ1 H1 O1 r1 x1 => ⟨M0, W0, O1, ρ1, o, r1, e2, q.ext x1⟩
  | bk ρ1 => cases e2; exact q
  | ct ρ1 => cases e2; exact q
  | rt d ρ1 => cases e2; exact q
  | rf d ρ1 => cases e2; exact q
theorem sss_one (h1 : SS X s a) : SSs X [s] a := pss_one h1
theorem ss_set {i : Nat} {x : Str} {pos' : Pos} (hN : X.N.Nodup) (hi : X.N[i]? = some x) (hx : Loc X.env.scope x) (he : SE X e f) (hs : swapsWith e (some (.Name x pos')) pos.line X.env = pure false := by rfl) (hf : X.fn x = true ∨ X.env.scope.names.lookup x = some .local := by first | exact .inl rfl | exact .inr rfl | assumption) :
    SS X (.Assign [.Name x pos'] e pos) (asgM i f) := by
  refine ps_wk (ps_set hN hi hx he hs hf) ?_
  rintro E σ H ⟨M0, W0, O, ρ, o, r, ev, q⟩
  simp only [asgM, Option.bind_eq_some_iff] at ev
  obtain ⟨⟨d, ρ1⟩, e1, e2⟩ := ev
  cases e2
  exact ⟨M0, W0, O, ρ, d, ρ1, r, e1, fun v H1 O1 r1 x1 p1 => q _ H1 O1 (r1.setSh p1) x1⟩
theorem ss_setF {i : Nat} {x : Str} {pos' : Pos} (hN : X.N.Nodup) (hi : X.N[i]? = some x) (hx : Loc X.env.scope x) (he : SF X e f) (hs : swapsWith e (some (.Name x pos')) pos.line X.env = pure false := by rfl) (hf : X.fn x = true ∨ X.env.scope.names.lookup x = some .local := by first | exact .inl rfl | exact .inr rfl | assumption) :
    SS X (.Assign [.Name x pos'] e pos) (asgF i f) := by
  refine ps_wk (ps_set hN hi hx he hs hf) ?_
  rintro E σ H ⟨M0, W0, O, ρ, o, r, ev, q⟩
  simp only [asgF, Option.bind_eq_some_iff] at ev
  obtain ⟨⟨d, ρ1⟩, e1, e2⟩ := ev
  cases e2
  exact ⟨M0, W0, O, ρ, d, ρ1, r, e1, fun p H1 O1 r1 x1 hp u w => q _ H1 O1 (r1.setOwn hp u w) x1⟩
theorem ss_expr (he : SE X e f) (hs : swapsWith e none pos.line X.env = pure false := by rfl) : SS X (.Expr e pos) (exprM f) := by
  refine ps_wk (ps_expr he hs) ?_
  rintro E σ H ⟨M0, W0, O, ρ, o, r, ev, q⟩
  simp only [exprM, Option.bind_eq_some_iff] at ev
  obtain ⟨⟨d, ρ1⟩, e1, e2⟩ := ev
  cases e2
  exact ⟨M0, W0, O, ρ, d, ρ1, r, e1, fun v H1 O1 r1 x1 p1 => q _ H1 O1 r1 x1⟩
theorem ss_ret (he : SE X e f) : SS X (.Return (some e) pos) (retM f) := by
  refine ps_wk (ps_ret he) ?_
  rintro E σ H ⟨M0, W0, O, ρ, o, r, ev, q⟩
  simp only [retM, Option.bind_eq_some_iff] at ev
  obtain ⟨⟨d, ρ1⟩, e1, e2⟩ := ev
  cases e2
  exact ⟨M0, W0, O, ρ, d, ρ1, r, e1, fun v H1 O1 r1 x1 p1 => q v σ H1 O1 r1 x1 p1⟩
theorem ss_retF (he : SF X e f) : SS X (.Return (some e) pos) (retF f) := by
  refine ps_wk (ps_ret he) ?_
  rintro E σ H ⟨M0, W0, O, ρ, o, r, ev, q⟩
  simp only [retF, Option.bind_eq_some_iff] at ev
  obtain ⟨⟨d, ρ1⟩, e1, e2⟩ := ev
  cases e2
  exact ⟨M0, W0, O, ρ, d, ρ1, r, e1, fun p H1 O1 r1 x1 hp u w => q p σ H1 O1 r1 x1 hp w⟩
theorem ss_retN : SS X (.Return none pos) retN := by
  refine ps_wk ps_retN ?_
  rintro E σ H ⟨M0, W0, O, ρ, o, r, ev, q⟩
  cases ev
  exact q _ σ H O r .refl .non
theorem ss_if {c : Expr} {t : MT} (hc : SB X c t) (ha : SSs X ss a) (hb : SSs X ts b) : SS X (.If c ss ts pos) (ifM t a b) := by
  refine ps_wk (ps_if hc ha hb) ?_
  rintro E σ H ⟨M0, W0, O, ρ, o, r, ev, q⟩
  simp only [ifM, Option.bind_eq_some_iff] at ev
  obtain ⟨⟨c1, ρ1⟩, e1, e2⟩ := ev
  refine ⟨M0, W0, O, ρ, c1, ρ1, r, e1, fun H1 O1 r1 x1 => ?_⟩
  cases c1 with
  | true =>
    rw [if_pos rfl] at e2 ⊢
    exact ⟨M0, W0, O1, ρ1, o, r1, e2, q.ext x1⟩
  | false =>
    rw [if_neg Bool.false_ne_true] at e2 ⊢
    exact ⟨M0, W0, O1, ρ1, o, r1, e2, q.ext x1⟩
theorem ss_pass : SS X (.Pass pos) skipM := by
  refine ps_wk ps_pass ?_
  rintro E σ H ⟨M0, W0, O, ρ, o, r, ev, q⟩
  cases ev
  exact q σ H O r .refl
theorem ss_break : SS X (.Break pos) brkM := by
  refine ps_wk ps_break ?_
  rintro E σ H ⟨M0, W0, O, ρ, o, r, ev, q⟩
  cases ev
  exact q σ H O r .refl
theorem ss_continue : SS X (.Continue pos) cntM := by
  refine ps_wk ps_continue ?_
  rintro E σ H ⟨M0, W0, O, ρ, o, r, ev, q⟩
  cases ev
  exact q σ H O r .refl
/-- a statement that is never come to (a raise) -/
def nevM : MS := fun _ => none
theorem ss_never : SS X s nevM := by
  refine ps_wk ps_never ?_
  rintro E σ H ⟨M0, W0, O, ρ, o, r, ev, q⟩
  cases ev
end

/-! ## while -/
def whileN (c : MT) (b : MS) : Nat → MS
  | 0, _ => none
  | n + 1, ρ => (c ρ).bind fun x => if x.1 = true then (b x.2).bind fun o => match o with
    | .nx ρ1 => whileN c b n ρ1
    | .ct ρ1 => whileN c b n ρ1
    | .bk ρ1 => some (.nx ρ1)
    | o => some o
    else some (.nx x.2)
theorem whileN_more {c : MT} {b : MS} : ∀ {n : Nat} {ρ : Env'} {o : Out}, whileN c b n ρ = some o → whileN c b (n + 1) ρ = some o
  | 0, ρ, o, h => by cases h
  | n + 1, ρ, o, h => by
    rw [whileN] at h ⊢
    simp only [Option.bind_eq_some_iff] at h ⊢
    obtain ⟨x, e1, h⟩ := h
    refine ⟨x, e1, ?_⟩
    split at h
    · rename_i hx
      rw [if_pos hx]
      simp only [Option.bind_eq_some_iff] at h ⊢
      obtain ⟨o1, e2, h⟩ := h
      refine ⟨o1, e2, ?_⟩
      cases o1 with
      | nx ρ1 => exact whileN_more h
      | ct ρ1 => exact whileN_more h
      | bk ρ1 => exact h
      | rt d ρ1 => exact h
      | rf d ρ1 => exact h
    · rename_i hx
      rw [if_neg hx]
      exact h
theorem whileN_le {c : MT} {b : MS} {ρ : Env'} {o : Out} {n m : Nat} (h : whileN c b n ρ = some o) (le : n ≤ m) : whileN c b m ρ = some o := by
  induction le with
  | refl => exact h
  | step _ ih => exact whileN_more ih
open Classical in
noncomputable def whileM (c : MT) (b : MS) : MS := fun ρ => if h : ∃ n, (whileN c b n ρ).isSome = true then whileN c b (Classical.choose h) ρ else none
theorem whileM_of {c : MT} {b : MS} {ρ : Env'} {o : Out} {n : Nat} (h : whileN c b n ρ = some o) : whileM c b ρ = some o := by
  have ex : ∃ n, (whileN c b n ρ).isSome = true := ⟨n, by rw [h]; rfl⟩
  unfold whileM
  rw [dif_pos ex]
  obtain ⟨o', e⟩ := Option.isSome_iff_exists.mp (Classical.choose_spec ex)
  rw [e]
  have h1 := whileN_le h (Nat.le_max_left n (Classical.choose ex))
  have h2 := whileN_le e (Nat.le_max_right n (Classical.choose ex))
  rw [h1] at h2
  exact h2.symm
theorem whileM_to {c : MT} {b : MS} {ρ : Env'} {o : Out} (h : whileM c b ρ = some o) : ∃ n, whileN c b n ρ = some o := by
  unfold whileM at h
  split at h
  · exact ⟨_, h⟩
  · cases h
/-- one turn -/
theorem whileM_eq (c : MT) (b : MS) (ρ : Env') : whileM c b ρ = (c ρ).bind fun x => if x.1 = true then (b x.2).bind fun o => match o with
    | .nx ρ1 => whileM c b ρ1
    | .ct ρ1 => whileM c b ρ1
    | .bk ρ1 => some (.nx ρ1)
    | o => some o
    else some (.nx x.2) := by
  have to : ∀ o, whileM c b ρ = some o → ((c ρ).bind fun x => if x.1 = true then (b x.2).bind fun o => match o with
    | .nx ρ1 => whileM c b ρ1
    | .ct ρ1 => whileM c b ρ1
    | .bk ρ1 => some (.nx ρ1)
    | o => some o
    else some (.nx x.2)) = some o := fun o h => by
    obtain ⟨n, h⟩ := whileM_to h
    cases n with
    | zero => cases h
    | succ n =>
      rw [whileN] at h
      simp only [Option.bind_eq_some_iff] at h ⊢
      obtain ⟨x, e1, h⟩ := h
      refine ⟨x, e1, ?_⟩
      split at h
      · rename_i hx
        rw [if_pos hx]
        simp only [Option.bind_eq_some_iff] at h ⊢
        obtain ⟨o1, e2, h⟩ := h
        refine ⟨o1, e2, ?_⟩
        cases o1 with
        | nx ρ1 => exact whileM_of h
        | ct ρ1 => exact whileM_of h
        | bk ρ1 => exact h
        | rt d ρ1 => exact h
        | rf d ρ1 => exact h
      · rename_i hx
        rw [if_neg hx]
        exact h
  have back : ∀ o, ((c ρ).bind fun x => if x.1 = true then (b x.2).bind fun o => match o with
    | .nx ρ1 => whileM c b ρ1
    | .ct ρ1 => whileM c b ρ1
    | .bk ρ1 => some (.nx ρ1)
    | o => some o
    else some (.nx x.2)) = some o → whileM c b ρ = some o := fun o h => by
    have mk : ∀ {n : Nat} {x : Bool × Env'}, c ρ = some x → (if x.1 = true then (b x.2).bind fun o => match o with
        | .nx ρ1 => whileN c b n ρ1
        | .ct ρ1 => whileN c b n ρ1
        | .bk ρ1 => some (.nx ρ1)
        | o => some o
        else some (.nx x.2)) = some o → whileM c b ρ = some o := fun {n x} e1 h => by
      refine whileM_of (n := n + 1) ?_
      rw [whileN, e1]
      exact h
    simp only [Option.bind_eq_some_iff] at h
    obtain ⟨x, e1, h⟩ := h
    split at h
    · rename_i hx
      simp only [Option.bind_eq_some_iff] at h
      obtain ⟨o1, e2, h⟩ := h
      cases o1 with
      | nx ρ1 =>
        obtain ⟨n, h⟩ := whileM_to h
        exact mk (n := n) e1 (by rw [if_pos hx, e2]; exact h)
      | ct ρ1 =>
        obtain ⟨n, h⟩ := whileM_to h
        exact mk (n := n) e1 (by rw [if_pos hx, e2]; exact h)
      | bk ρ1 => exact mk (n := 0) e1 (by rw [if_pos hx, e2]; exact h)
      | rt d ρ1 => exact mk (n := 0) e1 (by rw [if_pos hx, e2]; exact h)
      | rf d ρ1 => exact mk (n := 0) e1 (by rw [if_pos hx, e2]; exact h)
    · rename_i hx
      exact mk (n := 0) e1 (by rw [if_neg hx]; exact h)
  cases e : whileM c b ρ with
  | some o => exact (to o e).symm
  | none =>
    cases e2 : ((c ρ).bind fun x => if x.1 = true then (b x.2).bind fun o => match o with
      | .nx ρ1 => whileM c b ρ1
      | .ct ρ1 => whileM c b ρ1
      | .bk ρ1 => some (.nx ρ1)
      | o => some o
      else some (.nx x.2)) with
    | none => rfl
    | some o =>
      have := back o e2
      rw [e] at this; cases this
theorem ss_while {X : Cx} {c : Expr} {t : MT} {ss : List Stmt} {b : MS} {pos : Pos} (hp : PassesOwn (model X.prog X.w) X.A X.env X.xe) (hc : SB X c t) (hb : SSs X ss b) : SS X (.While c ss [] pos) (whileM t b) := by
  refine ps_wk (ps_while hp hc hb) ?_
  rintro E σ H ⟨M0, W0, O, ρ, o, r, ev, q⟩
  obtain ⟨n, hn⟩ := whileM_to ev
  refine ⟨fun m σ1 H1 => ∃ O1 ρ1, Rel X.K M0 W0 O1 ρ1 σ1 H1 ∧ Ext W0 O H O1 H1 ∧ whileN t b m ρ1 = some o, ⟨n, O, ρ, r, .refl, hn⟩, ?_⟩
  rintro m σ1 H1 ⟨O1, ρ1, r1, x1, h1⟩
  cases m with
  | zero => cases h1
  | succ m =>
    rw [whileN] at h1
    simp only [Option.bind_eq_some_iff] at h1
    obtain ⟨⟨c1, ρ2⟩, e1, h1⟩ := h1
    refine ⟨M0, W0, O1, ρ1, c1, ρ2, r1, e1, fun H2 O2 r2 x2 => ?_⟩
    cases c1 with
    | false =>
      rw [if_neg Bool.false_ne_true] at h1 ⊢
      cases h1
      exact q σ1 H2 O2 r2 (x1.trans x2)
    | true =>
      rw [if_pos rfl] at h1 ⊢
      simp only [Option.bind_eq_some_iff] at h1
      obtain ⟨o1, e2, h1⟩ := h1
      refine ⟨fun σ3 H3 => ∃ O3 ρ3, Rel X.K M0 W0 O3 ρ3 σ3 H3 ∧ Ext W0 O H O3 H3 ∧ whileN t b m ρ3 = some o, ?_, ?_⟩
      · rintro σ3 H3 ⟨O3, ρ3, r3, x3, h3⟩
        exact ⟨m, Nat.lt_succ_self m, O3, ρ3, r3, x3, h3⟩
      · refine ⟨M0, W0, O2, ρ2, o1, r2, e2, ?_⟩
        have x12 := x1.trans x2
        cases o1 with
        | nx ρ3 => exact fun σ3 H3 O3 r3 x3 => ⟨O3, ρ3, r3, x12.trans x3, h1⟩
        | ct ρ3 => exact fun σ3 H3 O3 r3 x3 => ⟨O3, ρ3, r3, x12.trans x3, h1⟩
        | bk ρ3 =>
          cases h1
          exact fun σ3 H3 O3 r3 x3 => q σ3 H3 O3 r3 (x12.trans x3)
        | rt d ρ3 =>
          cases h1
          exact fun v σ3 H3 O3 r3 x3 p => q v σ3 H3 O3 r3 (x12.trans x3) p
        | rf d ρ3 =>
          cases h1
          exact fun v σ3 H3 O3 r3 x3 hp w => q v σ3 H3 O3 r3 (x12.trans x3) hp w
end MP

set_option maxRecDepth 100000
namespace MP
open PySem PySem.Spec PyProof.Rows L2

/-! ## targets -/
abbrev MG := D → Env' → Option Env'
/-- what a target of the slots ks does -/
def tG (K : FragK) (ks : List Nat) (t : MG) : TG := fun v σ H Q => ∃ (M0 W0 O : AS) (ρ : Env') (d : D) (ρ' : Env'), Rel K M0 W0 O ρ σ H ∧ Rp K (mm M0 O) H v d ∧ t d ρ = some ρ' ∧
  ∀ σ' H' O', Rel K M0 W0 O' ρ' σ' H' → Ext W0 O H O' H' → σ'.length = σ.length → (∀ k, k ∉ ks → σ'[k]? = σ[k]?) → Q σ' H'
def tGs (K : FragK) (ks : List Nat) (t : List D → Env' → Option Env') : TGs := fun vs σ H Q => ∃ (M0 W0 O : AS) (ρ : Env') (ds : List D) (ρ' : Env'), Rel K M0 W0 O ρ σ H ∧ Rps K (mm M0 O) H vs ds ∧ t ds ρ = some ρ' ∧
  ∀ σ' H' O', Rel K M0 W0 O' ρ' σ' H' → Ext W0 O H O' H' → σ'.length = σ.length → (∀ k, k ∉ ks → σ'[k]? = σ[k]?) → Q σ' H'
abbrev SG (X : Cx) (e : Expr) (ks : List Nat) (t : MG) : Prop := PG X e (tG X.K ks t)
abbrev SGs (X : Cx) (es : List Expr) (ks : List Nat) (t : List D → Env' → Option Env') : Prop := PGs X es (tGs X.K ks t)
theorem pg_wk {X : Cx} {e : Expr} {t t' : TG} (h : PG X e t) (w : ∀ v σ H Q, t' v σ H Q → t v σ H Q) : PG X e t' := ⟨fun pins s σ H v u Q I r q => h.run pins s σ H v u Q I r (w v σ H Q q)⟩
theorem pgs_wk {X : Cx} {e : List Expr} {t t' : TGs} (h : PGs X e t) (w : ∀ v σ H Q, t' v σ H Q → t v σ H Q) : PGs X e t' := ⟨fun pins s σ H v u Q I r q => h.run pins s σ H v u Q I r (w v σ H Q q)⟩
def tgName (k : Nat) : MG := fun d ρ => some (ρ.set k (.sh d))
def tgNil : List D → Env' → Option Env' := fun ds ρ => match ds with
  | [] => some ρ
  | _ => none
def tgCons (t : MG) (u : List D → Env' → Option Env') : List D → Env' → Option Env' := fun ds ρ => match ds with
  | d :: r => (t d ρ).bind fun ρ1 => u r ρ1
  | [] => none
def tgTup (n : Nat) (u : List D → Env' → Option Env') : MG := fun d ρ => match d with
  | .tuple ds => if ds.length = n then u ds ρ else none
  | _ => none
/-- o[i] = d, o told as data -/
def putAt : D → D → D → Option D
  | .list ds, .int i, d => (ixN ds.length i).map fun j => .list (ds.set j d)
  | .dict kvs, k, d => (keyD k).bind fun q => if kvs.length < sizeLine then some (.dict (putD kvs (kD q) d)) else none
  | _, _, _ => none
theorem putAt_lst {ds : List D} {x d c : D} (h : putAt (.list ds) x d = some c) : ∃ i j, x = .int i ∧ ixN ds.length i = some j ∧ c = .list (ds.set j d) := by
  cases x with
  | int i =>
    obtain ⟨j, ej, rfl⟩ := Option.map_eq_some_iff.mp (show (ixN ds.length i).map (fun j => PyData.list (ds.set j d)) = some c from h)
    exact ⟨i, j, rfl, ej, rfl⟩
  | _ => cases h
theorem putAt_dct {kvs : List (D × D)} {x d c : D} (h : putAt (.dict kvs) x d = some c) : ∃ k, x = kD k ∧ kvs.length < sizeLine ∧ c = .dict (putD kvs (kD k) d) := by
  obtain ⟨k, ek, h⟩ := Option.bind_eq_some_iff.mp (show ((keyD x).bind fun q => if kvs.length < sizeLine then some (PyData.dict (putD kvs (kD q) d)) else none) = some c by cases x <;> exact h)
  split at h
  · rename_i hl
    cases h
    exact ⟨k, keyD_kV ek, hl, rfl⟩
  · cases h
def updC (k : Nat) (g : D → Option D) (ρ : Env') : Option Env' := match ρ[k]? with
  | some (.own c) => (g c).map fun c' => ρ.set k (.own c')
  | some (.io c) => (g c).map fun c' => ρ.set k (.io c')
  | _ => none
def tgSet (k : Nat) (f : ME) : MG := fun d ρ => (rd ρ k).bind fun _ => (f ρ).bind fun x => updC k (fun c => putAt c x.1 d) x.2
section
variable {X : Cx} {pos : Pos}
theorem sg_name {i : Nat} {x : Str} (hN : X.N.Nodup) (hi : X.N[i]? = some x) (hx : Loc X.env.scope x) (hf : X.fn x = true ∨ X.env.scope.names.lookup x = some .local := by first | exact .inl rfl | exact .inr rfl | assumption) : SG X (.Name x pos) [i] (tgName i) := by
  refine pg_wk (pg_name hN hi hx hf) ?_
  rintro v σ H Q ⟨M0, W0, O, ρ, d, ρ', r, p, e, q⟩
  cases e
  refine q _ H O (r.setSh p) .refl (by simp) fun k hk => ?_
  rw [List.getElem?_set_ne (fun z => hk (by simp [z]))]
theorem sgs_nil : SGs X [] [] tgNil := by
  refine pgs_wk pgs_nil ?_
  rintro v σ H Q ⟨M0, W0, O, ρ, d, ρ', r, p, e, q⟩
  unfold tgNil at e
  split at e
  · cases e
    cases p
    exact ⟨rfl, q σ H O r .refl rfl fun _ _ => rfl⟩
  · cases e
theorem sgs_cons {e : Expr} {es : List Expr} {k1 k2 : List Nat} {t : MG} {u : List D → Env' → Option Env'} (h1 : SG X e k1 t) (h2 : SGs X es k2 u)
    (hs : (assignEach (e :: es) X.env).map (·.2) = assign e X.env :: (assignEach es X.env).map (·.2) := by rfl) : SGs X (e :: es) (k1 ++ k2) (tgCons t u) := by
  refine pgs_wk (pgs_cons h1 h2 hs) ?_
  rintro v σ H Q ⟨M0, W0, O, ρ, ds, ρ', r, p, ev, q⟩
  unfold tgCons at ev
  split at ev
  · obtain ⟨ρ1, e1, e2⟩ := Option.bind_eq_some_iff.mp ev
    cases p with
    | cons p ps =>
      refine ⟨_, _, rfl, M0, W0, O, ρ, _, ρ1, r, p, e1, fun σ1 H1 O1 r1 x1 l1 k1' => ?_⟩
      refine ⟨M0, W0, O1, ρ1, _, ρ', r1, ps.stab (x1.stab r.wsub), e2, fun σ2 H2 O2 r2 x2 l2 k2' => ?_⟩
      refine q σ2 H2 O2 r2 (x1.trans x2) (l2.trans l1) fun k hk => ?_
      rw [k2' k fun z => hk (List.mem_append_right _ z), k1' k fun z => hk (List.mem_append_left _ z)]
  · cases ev
theorem sg_tup {es : List Expr} {k : Nat} {ks : List Nat} {u : List D → Env' → Option Env'} {n : Nat} (hc : X.calm = true) (h : SGs X es ks u)
    (hn : (assignEach es X.env).length = n := by rfl) (hst : (assignEach es X.env).findIdx? (·.1) = none := by rfl) : SG X (.Tuple es k pos) ks (tgTup n u) := by
  refine pg_wk (pg_tup hc h hn hst) ?_
  rintro v σ H Q ⟨M0, W0, O, ρ, d, ρ', r, p, ev, q⟩
  unfold tgTup at ev
  split at ev
  · split at ev
    · rename_i hl
      cases p with
      | tup a ps => exact ⟨_, _, rfl, a.sq, by rw [ps.length]; exact hl, M0, W0, O, ρ, _, ρ', r, ps, ev, q⟩
    · cases ev
  · cases ev
/-- o[i] = v by values, of lists and dicts -/
def rSetD : TSet := fun o i v H Q => ∃ a H4, o = V.ref a ∧ DPut H a i v H4 ∧ Q H4
theorem set_dct (hu : X.A.units + 1 < cLine) : PSet X rSetD := by
  intro pins s σ H o i v ov iv u Q I ro ri rv h
  obtain ⟨a, H4, rfl, g, q⟩ := h
  cases ro
  exact d_setItem hu I g ri rv fun s4 I4 => ⟨H4, I4, q⟩
theorem PSet.or {t t' : TSet} (h : PSet X t) (h' : PSet X t') : PSet X (fun o i v H Q => t o i v H Q ∨ t' o i v H Q) := by
  intro pins s σ H o i v ov iv u Q I ro ri rv q
  rcases q with q | q
  · exact h pins s σ H o i v ov iv u Q I ro ri rv q
  · exact h' pins s σ H o i v ov iv u Q I ro ri rv q
theorem Rel.updAt {K : FragK} {M0 W0 O : AS} {ρ ρ' : Env'} {σ : L2.St} {H : Hp} {k : Nat} {g : D → Option D} (r : Rel K M0 W0 O ρ σ H) (h : updC k g ρ = some ρ') :
    ∃ p c c', σ[k]? = some (some (.ref p)) ∧ Ow K (mm M0 O) H p c ∧ g c = some c' ∧ ∀ o, Ow K (mm M0 O) (L2.upd H p o) p c' → Rel K M0 W0 O ρ' σ (L2.upd H p o) ∧ Ext W0 O H O (L2.upd H p o) := by
  unfold updC at h
  split at h
  · rename_i c hk
    obtain ⟨c', e, rfl⟩ := Option.map_eq_some_iff.mp h
    obtain ⟨p, hs, _, w⟩ := r.own k c hk
    exact ⟨p, c, c', hs, w, e, fun o w' => r.write hk hs (.inl ⟨c, rfl, rfl⟩) w'⟩
  · rename_i c hk
    obtain ⟨c', e, rfl⟩ := Option.map_eq_some_iff.mp h
    obtain ⟨p, hs, _, w⟩ := r.io k c hk
    exact ⟨p, c, c', hs, w, e, fun o w' => r.write hk hs (.inr ⟨c, rfl, rfl⟩) w'⟩
  · cases h
theorem sg_set {x : Str} {i : Expr} {k : Nat} {f : ME} {p1 : Pos} (hu : X.A.units + 1 < cLine) (ho : SA X (.Name x p1) (.p k)) (hi : SE X i f)
    (ha : ∀ v, assign (.Subscript (.Name x p1) i pos) X.env v = (do
      let ov ← holding [v] (eval (.Name x p1) X.env)
      let iv ← holding [v, ov] (eval i X.env)
      standAt pos
      holding [v, ov, iv] (setItem ov iv v)
      release [v, ov, iv] []) := by intro _; rfl) : SG X (.Subscript (.Name x p1) i pos) [] (tgSet k f) := by
  refine pg_wk (pg_sub ho hi (MP.PSet.or set_list (set_dct hu)) ha) ?_
  rintro v σ H Q ⟨M0, W0, O, ρ, d, ρ', r, p, ev, q⟩
  simp only [tgSet, Option.bind_eq_some_iff] at ev
  obtain ⟨d0, e0, ⟨di, ρ1⟩, e1, e2⟩ := ev
  obtain ⟨ov, hov, _⟩ := r.rd e0
  refine ⟨ov, hov, M0, W0, O, ρ, di, ρ1, r, e1, fun iv H1 O1 r1 x1 pi => ?_⟩
  have pv := p.stab (x1.stab r.wsub)
  obtain ⟨a, c, c', hs, w, eg, up⟩ := r1.updAt e2
  rw [hov] at hs; cases hs
  have na : mm M0 O1 a → ∀ o, Stab (mm M0 O1) (mm M0 O1) H1 (L2.upd H1 a o) := fun ma o b ob hb hm => ⟨by
    rw [upd_ne (show b ≠ a from fun z => hm (z ▸ ma))]; exact hb, hm⟩
  have ma : mm M0 O1 a := by
    unfold updC at e2
    split at e2
    · rename_i c0 hk
      obtain ⟨b, hb, ob, _⟩ := r1.own k _ hk
      rw [hov] at hb; cases hb
      exact .inr ob
    · rename_i c0 hk
      obtain ⟨b, hb, ob, _⟩ := r1.io k _ hk
      rw [hov] at hb; cases hb
      exact .inl (r1.wsub _ ob)
    · cases e2
  have eg' : putAt c di d = some c' := eg
  cases w with
  | lst e rr =>
    obtain ⟨z, j, rfl, ej, rfl⟩ := putAt_lst eg'
    cases pi
    refine .inl ⟨a, _, _, j, rfl, rfl, e, by rw [rr.length]; exact ej, ?_⟩
    obtain ⟨r2, x2⟩ := up _ (.lst upd_same ((Rps.set pv j rr).stab (na ma _)))
    exact q σ _ O1 r2 (x1.trans x2) rfl fun _ _ => rfl
  | dct e rr =>
    obtain ⟨kk, ek, hl, rfl⟩ := putAt_dct eg'
    subst ek
    obtain rfl := rp_key pi.rt
    refine .inr ⟨a, _, rfl, .inl ⟨_, kk, e, rfl, by rw [rr.length]; exact hl, rfl⟩, ?_⟩
    obtain ⟨r2, x2⟩ := up _ (.dct upd_same ((rr.put (k := kk) pv).stab (na ma _)))
    exact q σ _ O1 r2 (x1.trans x2) rfl fun _ _ => rfl
end
/-! ## assignments -/
def asgT (f : ME) (t : MG) : MS := fun ρ => (f ρ).bind fun x => (t x.1 x.2).bind fun ρ1 => some (.nx ρ1)
def parM (i j : Nat) (f g : ME) : MS := fun ρ => (f ρ).bind fun x => (g x.2).bind fun y => some (.nx ((y.2.set i (.sh x.1)).set j (.sh y.1)))
section
variable {X : Cx} {pos : Pos}
theorem ss_asg {tg e : Expr} {f : ME} {ks : List Nat} {t : MG} (he : SE X e f) (hg : SG X tg ks t) (hs : swapsWithSole [tg] e pos.line X.env = pure false := by rfl) (hw : swappedStores [tg] e X.env = pure none := by rfl)
    (h1 : (assignEach [tg] X.env).map (·.2) = [assign tg X.env] := by rfl) : SS X (.Assign [tg] e pos) (asgT f t) := by
  refine ps_wk (ps_asg he hg hs hw h1) ?_
  rintro E σ H ⟨M0, W0, O, ρ, o, r, ev, q⟩
  simp only [asgT, Option.bind_eq_some_iff] at ev
  obtain ⟨⟨d, ρ1⟩, e1, ρ2, e2, e3⟩ := ev
  cases e3
  refine ⟨M0, W0, O, ρ, d, ρ1, r, e1, fun v H1 O1 r1 x1 p1 => ⟨M0, W0, O1, ρ1, d, ρ2, r1, p1, e2, fun σ2 H2 O2 r2 x2 _ _ => q σ2 H2 O2 r2 (x1.trans x2)⟩⟩
theorem ss_par {i j : Nat} {x y : Str} {a b : Expr} {f g : ME} {px py pt : Pos} {kt k2 : Nat} {pt2 : Pos} (hc : X.calm = true) (hN : X.N.Nodup) (hi : X.N[i]? = some x) (hj : X.N[j]? = some y) (hij : i ≠ j)
    (hx : X.env.scope.names.lookup x = some .local) (hy : X.env.scope.names.lookup y = some .local) (ha : SVs X [a, b] [f, g])
    (hw : swappedStores [.Tuple [.Name x px, .Name y py] kt pt] (.Tuple [a, b] k2 pt2) X.env = pure (some [x, y]))
    (hs : swapsWithSole [.Tuple [.Name x px, .Name y py] kt pt] (.Tuple [a, b] k2 pt2) pos.line X.env = pure false := by rfl) :
    SS X (.Assign [.Tuple [.Name x px, .Name y py] kt pt] (.Tuple [a, b] k2 pt2) pos) (parM i j f g) := by
  refine ps_wk (ps_par hc hN hi hj hij hx hy ha hw hs) ?_
  rintro E σ H ⟨M0, W0, O, ρ, o, r, ev, q⟩
  simp only [parM, Option.bind_eq_some_iff] at ev
  obtain ⟨⟨d, ρ1⟩, e1, ⟨d2, ρ2⟩, e2, e3⟩ := ev
  cases e3
  refine vals_ok (ds := [d, d2]) (ρ' := ρ2) r (by simp only [evV, e1, e2, Option.bind_some]) fun xs H1 O1 r1 x1 p1 => ?_
  cases p1 with
  | cons p p1 => cases p1 with
    | cons p2 p1 => cases p1; exact ⟨_, _, rfl, q _ H1 O1 ((r1.setSh p).setSh p2) x1⟩
end

/-! ## what is walked -/
abbrev MI := Env' → Option (List D × Env')
def tI (K : FragK) (it : MI) : TI := fun σ H R => ∃ (M0 W0 O : AS) (ρ : Env') (ds : List D) (ρ' : Env'), Rel K M0 W0 O ρ σ H ∧ it ρ = some (ds, ρ') ∧
  ∀ (J : It) (H' : Hp) (O' : AS) (G : Hp → Prop) (Y : Nat → Hp → V → Hp → Prop), Walk J ds.length G Y → Rel K M0 W0 O' ρ' σ H' → Ext W0 O H O' H' → (∀ O1 H1, Ext W0 O' H' O1 H1 → G H1) →
    (∀ (i : Nat) (O1 : AS) (H1 : Hp) (x : V) (H2 : Hp), i < ds.length → Ext W0 O' H' O1 H1 → MDom (mm M0 O1) H1 → Y i H1 x H2 → Same H1 H2 ∧ ∃ d, ds[i]? = some d ∧ Rp K (mm M0 O1) H2 x d) → R J H'
abbrev SI (X : Cx) (tg iter : Expr) (it : MI) : Prop := PI X tg iter (tI X.K it)
theorem pi_wk {X : Cx} {tg e : Expr} {t t' : TI} (h : PI X tg e t) (w : ∀ σ H R, t' σ H R → t σ H R) : PI X tg e t' := ⟨fun pins s σ H R I q => h.run pins s σ H R I (w σ H R q)⟩
theorem PI.or' {X : Cx} {tg e : Expr} {t t' : TI} (h : PI X tg e t) (h' : PI X tg e t') : PI X tg e (fun σ H R => t σ H R ∨ t' σ H R) := ⟨fun pins s σ H R I q => by
  rcases q with q | q
  · exact h.run pins s σ H R I q
  · exact h'.run pins s σ H R I q⟩
/-- a list, a tuple, a text -/
def itSeq (f : ME) : MI := fun ρ => (f ρ).bind fun x => match x.1 with
  | .list ds => some (ds, x.2)
  | .tuple ds => some (ds, x.2)
  | .str z => some (z.cps.toList.map fun c => .str ⟨#[c]⟩, x.2)
  | _ => none
def intsD (lo : Int) (n : Nat) : List D := (List.range n).map fun i => .int (lo + (i : Nat))
def rangeB : Int := 2 ^ 62
def itRng1 (f : ME) : MI := fun ρ => (f ρ).bind fun x => match x.1 with
  | .int j => if -rangeB ≤ j ∧ j < rangeB then some (intsD 0 j.toNat, x.2) else none
  | _ => none
def itRng2 (f g : ME) : MI := fun ρ => (f ρ).bind fun x => (g x.2).bind fun y => match x.1, y.1 with
  | .int i, .int j => if (-rangeB ≤ i ∧ i < rangeB) ∧ -rangeB ≤ j ∧ j < rangeB then some (intsD i (j - i).toNat, y.2) else none
  | _, _ => none
def enumL : Nat → List D → List D
  | _, [] => []
  | i, d :: r => .tuple [.int (i : Nat), d] :: enumL (i + 1) r
def zipL : List D → List D → List D
  | d :: r, e :: s => .tuple [d, e] :: zipL r s
  | _, _ => []
def itEnum (f : ME) : MI := fun ρ => (f ρ).bind fun x => match x.1 with
  | .list ds => some (enumL 0 ds, x.2)
  | _ => none
def itZip (f g : ME) : MI := fun ρ => (f ρ).bind fun x => (g x.2).bind fun y => match x.1, y.1 with
  | .list ds, .list es => some (zipL ds es, y.2)
  | .tuple ds, .tuple es => some (zipL ds es, y.2)
  | _, _ => none
theorem intsD_length (lo : Int) (n : Nat) : (intsD lo n).length = n := by simp [intsD]
theorem intsD_get {lo : Int} {n i : Nat} (h : i < n) : (intsD lo n)[i]? = some (.int (lo + (i : Nat))) := by simp [intsD, h]
theorem enumL_length : ∀ (i : Nat) (ds : List D), (enumL i ds).length = ds.length
  | _, [] => rfl
  | i, d :: r => by simp [enumL, enumL_length (i + 1) r]
theorem enumL_get : ∀ {i j : Nat} {ds : List D} {d : D}, ds[j]? = some d → (enumL i ds)[j]? = some (.tuple [.int ((i + j : Nat) : Int), d])
  | i, 0, [], d, h => by simp at h
  | i, j + 1, [], d, h => by simp at h
  | i, 0, e :: r, d, h => by
    simp at h; subst h
    simp [enumL]
  | i, j + 1, e :: r, d, h => by
    have h' : r[j]? = some d := by simpa using h
    have := enumL_get (i := i + 1) h'
    rw [show i + (j + 1) = i + 1 + j by omega, enumL, List.getElem?_cons_succ]
    exact this
theorem zipL_length : ∀ ds es : List D, (zipL ds es).length = min ds.length es.length
  | [], es => by cases es <;> simp [zipL]
  | d :: r, [] => by simp [zipL]
  | d :: r, e :: s => by simp only [zipL, List.length_cons, zipL_length r s]; omega
theorem zipL_get : ∀ {j : Nat} {ds es : List D} {d e : D}, ds[j]? = some d → es[j]? = some e → (zipL ds es)[j]? = some (.tuple [d, e])
  | _, [], _, d, e, h, _ => by simp at h
  | _, _ :: _, [], d, e, _, h => by simp at h
  | 0, a :: r, b :: s, d, e, h, h' => by
    simp at h h'; subst h; subst h'
    simp [zipL]
  | j + 1, a :: r, b :: s, d, e, h, h' => by
    rw [zipL, List.getElem?_cons_succ]
    exact zipL_get (by simpa using h) (by simpa using h')
section
variable {X : Cx} {tg e : Expr} {f g : ME} {p pos : Pos}
theorem AtL.sqs {K : FragK} {M : AS} {H : Hp} {a : Addr} {xs : List V} (h : AtL K M H a xs) : SqL K H a xs := h.lx.sq
theorem si_seq (he : SE X e f) : SI X tg e (itSeq f) := by
  refine pi_wk (PI.or' (pi_list he) (PI.or' (pi_tup he) (pi_str he))) ?_
  rintro σ H R ⟨M0, W0, O, ρ, ds, ρ', r, ev, q⟩
  simp only [itSeq, Option.bind_eq_some_iff] at ev
  obtain ⟨⟨d, ρ1⟩, e1, e2⟩ := ev
  split at e2
  · rename_i ls hd
    cases e2
    subst hd
    refine .inl ⟨M0, W0, O, ρ, _, ρ1, r, e1, fun v H1 O1 r1 x1 p1 => ?_⟩
    cases p1 with
    | @lst a xs _ al rr =>
      refine ⟨a, rfl, ⟨xs, al.sqs⟩, ?_⟩
      have w := walk_list (K := X.K) (a := a) (xs := xs)
      rw [rr.length] at w
      refine q _ H1 O1 _ _ w r1 x1 (fun O2 H2 x2 => (al.stab (x2.stab r1.wsub)).sqs) fun i O2 H2 x H3 hi x2 m2 y => ?_
      obtain ⟨rfl, hx⟩ := y
      obtain ⟨d', hd', pd⟩ := (rr.stab (x2.stab r1.wsub)).get' hx
      exact ⟨fun _ _ h => h, d', hd', pd⟩
  · rename_i ls hd
    cases e2
    subst hd
    refine .inr (.inl ⟨M0, W0, O, ρ, _, ρ1, r, e1, fun v H1 O1 r1 x1 p1 => ?_⟩)
    cases p1 with
    | @tup a xs _ al rr =>
      refine ⟨a, rfl, ⟨xs, al.sq⟩, ?_⟩
      have w := walk_tup (K := X.K) (a := a) (xs := xs)
      rw [rr.length] at w
      refine q _ H1 O1 _ _ w r1 x1 (fun O2 H2 x2 => (al.stab (x2.stab r1.wsub)).sq) fun i O2 H2 x H3 hi x2 m2 y => ?_
      obtain ⟨rfl, hx⟩ := y
      obtain ⟨d', hd', pd⟩ := (rr.stab (x2.stab r1.wsub)).get' hx
      exact ⟨fun _ _ h => h, d', hd', pd⟩
  · rename_i z hd
    cases e2
    subst hd
    refine .inr (.inr ⟨M0, W0, O, ρ, _, ρ1, r, e1, fun v H1 O1 r1 x1 p1 => ?_⟩)
    cases p1
    refine ⟨z, rfl, ?_⟩
    have w := walk_str (z := z)
    have hl : z.cps.size = (z.cps.toList.map fun c => (PyData.str ⟨#[c]⟩ : D)).length := by simp
    rw [hl] at w
    refine q _ H1 O1 _ _ w r1 x1 (fun _ _ _ => trivial) fun i O2 H2 x H3 hi x2 m2 y => ?_
    obtain ⟨rfl, c, hc, rfl⟩ := y
    exact ⟨fun _ _ h => h, .str ⟨#[c]⟩, by simp [hc], .str _⟩
  · cases e2
theorem si_rng1 {a : Expr} (hg : Gl X "range") (hm : X.mg "range" = none) (ha : SE X a f) (hs : starEach [a] X.env = [(false, eval a X.env)] := by rfl) : SI X tg (.Call (.Name "range" p) [a] [] pos) (itRng1 f) := by
  refine pi_wk (pi_range1 hg hm (svs_cons ha svs_nil hs) hs) ?_
  rintro σ H R ⟨M0, W0, O, ρ, ds, ρ', r, ev, q⟩
  simp only [itRng1, Option.bind_eq_some_iff] at ev
  obtain ⟨⟨d, ρ1⟩, e1, e2⟩ := ev
  split at e2
  · rename_i j hd
    split at e2
    · rename_i hb
      cases e2
      subst hd
      refine vals_ok (ds := [.int j]) (ρ' := ρ1) r (by simp only [evV, e1, Option.bind_some]) fun xs H1 O1 r1 x1 p1 => ?_
      cases p1 with
      | cons p p1 =>
        cases p1; cases p
        refine ⟨j, rfl, hb.1, hb.2, ?_⟩
        have w := walk_range (lo := 0) (n := j.toNat)
        rw [show j.toNat = (intsD 0 j.toNat).length by rw [intsD_length]] at w
        rw [intsD_length] at w
        have w' : Walk (Itr 0 j.toNat) (intsD 0 j.toNat).length (fun _ => True) (YFn fun i => V.int (0 + (i : Nat))) := by rw [intsD_length]; exact w
        refine q _ H1 O1 _ _ w' r1 x1 (fun _ _ _ => trivial) fun i O2 H2 x H3 hi x2 m2 y => ?_
        obtain ⟨rfl, rfl⟩ := y
        rw [intsD_length] at hi
        exact ⟨fun _ _ h => h, _, intsD_get hi, .int _⟩
    · cases e2
  · cases e2
theorem si_rng2 {a b : Expr} (hg : Gl X "range") (hm : X.mg "range" = none) (ha : SE X a f) (hb : SE X b g) (hs : starEach [a, b] X.env = [(false, eval a X.env), (false, eval b X.env)] := by rfl) (hs2 : starEach [b] X.env = [(false, eval b X.env)] := by rfl) :
    SI X tg (.Call (.Name "range" p) [a, b] [] pos) (itRng2 f g) := by
  refine pi_wk (pi_range2 hg hm (svs_cons ha (svs_cons hb svs_nil hs2) (by rw [hs, hs2])) hs hs2) ?_
  rintro σ H R ⟨M0, W0, O, ρ, ds, ρ', r, ev, q⟩
  simp only [itRng2, Option.bind_eq_some_iff] at ev
  obtain ⟨⟨d, ρ1⟩, e1, ⟨d2, ρ2⟩, e2, e3⟩ := ev
  split at e3
  · rename_i i j hd hd2
    split at e3
    · rename_i hb
      cases e3
      subst hd hd2
      refine vals_ok (ds := [.int i, .int j]) (ρ' := ρ2) r (by simp only [evV, e1, e2, Option.bind_some]) fun xs H1 O1 r1 x1 p1 => ?_
      cases p1 with
      | cons p p1 => cases p1 with
        | cons p2 p1 =>
          cases p1; cases p; cases p2
          refine ⟨i, j, rfl, ⟨hb.1.1, hb.1.2, hb.2.1, hb.2.2⟩, ?_⟩
          have w' : Walk (Itr i (j - i).toNat) (intsD i (j - i).toNat).length (fun _ => True) (YFn fun n => V.int (i + (n : Nat))) := by rw [intsD_length]; exact walk_range
          refine q _ H1 O1 _ _ w' r1 x1 (fun _ _ _ => trivial) fun n O2 H2 x H3 hi x2 m2 y => ?_
          obtain ⟨rfl, rfl⟩ := y
          rw [intsD_length] at hi
          exact ⟨fun _ _ h => h, _, intsD_get hi, .int _⟩
    · cases e3
  · cases e3
theorem si_enum {a : Expr} {tpos : Pos} {elts : List Expr} {kk : Nat} (hg : Gl X "enumerate") (hm : X.mg "enumerate" = none) (ha : SE X a f) (hs : starEach [a] X.env = [(false, eval a X.env)] := by rfl) :
    SI X (.Tuple elts kk tpos) (.Call (.Name "enumerate" p) [a] [] pos) (itEnum f) := by
  refine pi_wk (pi_enum hg hm (svs_cons ha svs_nil hs) hs) ?_
  rintro σ H R ⟨M0, W0, O, ρ, ds, ρ', r, ev, q⟩
  simp only [itEnum, Option.bind_eq_some_iff] at ev
  obtain ⟨⟨d, ρ1⟩, e1, e2⟩ := ev
  split at e2
  · rename_i ls hd
    cases e2
    subst hd
    refine vals_ok (ds := [.list ls]) (ρ' := ρ1) r (by simp only [evV, e1, Option.bind_some]) fun xs H1 O1 r1 x1 p1 => ?_
    cases p1 with
    | cons p p1 =>
      cases p1
      cases p with
      | @lst a us _ al rr =>
        refine ⟨a, us, rfl, al.sqs, ?_⟩
        have w' : Walk (Ite X.K a) (enumL 0 ls).length (fun H => SqL X.K H a us) (YPair (fun i => some (V.int (i : Nat))) (fun i => us[i]?)) := by rw [enumL_length, ← rr.length]; exact walk_enum
        refine q _ H1 O1 _ _ w' r1 x1 (fun O2 H2 x2 => (al.stab (x2.stab r1.wsub)).sqs) fun i O2 H2 x H3 hi x2 m2 y => ?_
        obtain ⟨T, y1, y2, rfl, nT, rfl, h1, h2⟩ := y
        cases h1
        obtain ⟨d', hd', pd⟩ := (rr.stab (x2.stab r1.wsub)).get' h2
        refine ⟨same_upd nT, _, enumL_get hd', ?_⟩
        rw [Nat.zero_add]
        exact rp_tup m2 nT (.cons (.int _) (.cons pd .nil))
  · cases e2
theorem si_zip {a b : Expr} {tpos : Pos} {elts : List Expr} {kk : Nat} (hg : Gl X "zip") (hm : X.mg "zip" = none) (ha : SE X a f) (hb : SE X b g)
    (hs : starEach [a, b] X.env = (false, eval a X.env) :: starEach [b] X.env := by rfl) (hs2 : starEach [b] X.env = (false, eval b X.env) :: starEach [] X.env := by rfl) (hpl : (backTo pos (starEach [b] X.env)).any (·.1) = false := by rfl) :
    SI X (.Tuple elts kk tpos) (.Call (.Name "zip" p) [a, b] [] pos) (itZip f g) := by
  refine pi_wk (RZ.pi_zipA hg hm (svs_cons ha (svs_cons hb svs_nil hs2) hs) hs hpl) ?_
  rintro σ H R ⟨M0, W0, O, ρ, ds, ρ', r, ev, q⟩
  simp only [itZip, Option.bind_eq_some_iff] at ev
  obtain ⟨⟨d, ρ1⟩, e1, ⟨d2, ρ2⟩, e2, e3⟩ := ev
  have two : ∀ {d d2 : D}, f ρ = some (d, ρ1) → g ρ1 = some (d2, ρ2) → evV [f, g] ρ = some ([d, d2], ρ2) := fun e1 e2 => by simp only [evV, e1, e2, Option.bind_some]
  split at e3
  · rename_i ls ms hd hd2
    cases e3
    subst hd hd2
    refine vals_ok r (two e1 e2) fun xs H1 O1 r1 x1 p1 => ?_
    cases p1 with
    | cons p p1 => cases p1 with
      | cons p2 p1 =>
        cases p1
        cases p with
        | @lst a us _ al rr => cases p2 with
          | @lst b ws _ bl rs =>
            refine ⟨a, b, us, ws, rfl, .inl ⟨al.sqs, bl.sqs, ?_⟩⟩
            have w' : Walk (Itz X.K a b) (zipL ls ms).length (fun H => SqL X.K H a us ∧ SqL X.K H b ws) (YPair (fun i => us[i]?) (fun i => ws[i]?)) := walk_zip (by rw [zipL_length, rr.length, rs.length])
            refine q _ H1 O1 _ _ w' r1 x1 (fun O2 H2 x2 => ⟨(al.stab (x2.stab r1.wsub)).sqs, (bl.stab (x2.stab r1.wsub)).sqs⟩) fun i O2 H2 x H3 hi x2 m2 y => ?_
            obtain ⟨T, y1, y2, rfl, nT, rfl, h1, h2⟩ := y
            obtain ⟨d', hd', pd⟩ := (rr.stab (x2.stab r1.wsub)).get' h1
            obtain ⟨d'', hd'', pd'⟩ := (rs.stab (x2.stab r1.wsub)).get' h2
            exact ⟨same_upd nT, _, zipL_get hd' hd'', rp_tup m2 nT (.cons pd (.cons pd' .nil))⟩
  · rename_i ls ms hd hd2
    cases e3
    subst hd hd2
    refine vals_ok r (two e1 e2) fun xs H1 O1 r1 x1 p1 => ?_
    cases p1 with
    | cons p p1 => cases p1 with
      | cons p2 p1 =>
        cases p1
        cases p with
        | @tup a us _ al rr => cases p2 with
          | @tup b ws _ bl rs =>
            refine ⟨a, b, us, ws, rfl, .inr ⟨al.sq, bl.sq, ?_⟩⟩
            have w' : Walk (RZ.ItzT X.K a b) (zipL ls ms).length (fun H => SqT X.K H a us ∧ SqT X.K H b ws) (YPair (fun i => us[i]?) (fun i => ws[i]?)) := walk_zipT (by rw [zipL_length, rr.length, rs.length])
            refine q _ H1 O1 _ _ w' r1 x1 (fun O2 H2 x2 => ⟨(al.stab (x2.stab r1.wsub)).sq, (bl.stab (x2.stab r1.wsub)).sq⟩) fun i O2 H2 x H3 hi x2 m2 y => ?_
            obtain ⟨T, y1, y2, rfl, nT, rfl, h1, h2⟩ := y
            obtain ⟨d', hd', pd⟩ := (rr.stab (x2.stab r1.wsub)).get' h1
            obtain ⟨d'', hd'', pd'⟩ := (rs.stab (x2.stab r1.wsub)).get' h2
            exact ⟨same_upd nT, _, zipL_get hd' hd'', rp_tup m2 nT (.cons pd (.cons pd' .nil))⟩
  · cases e3
where
  walk_zipT {K : FragK} {a b : Addr} {xs ys : List V} {n : Nat} (hn : n = min xs.length ys.length) : Walk (RZ.ItzT K a b) n (fun H => SqT K H a xs ∧ SqT K H b ys) (YPair (fun i => xs[i]?) (fun i => ys[i]?)) := by
    subst hn
    refine ⟨fun i _ hi q => ?_, fun _ q => ⟨xs, ys, q.1, q.2, by omega⟩, fun i H v H' _ q y => ?_⟩
    · have h1 : i < xs.length := by omega
      have h2 : i < ys.length := by omega
      exact ⟨xs, ys, xs[i], ys[i], q.1, q.2, by simp [h1], by simp [h2]⟩
    · obtain ⟨T, x, z, h1, h2, h3, h4, h5⟩ := y
      exact ⟨T, x, z, h1, h2, h3, h4 xs q.1, h5 ys q.2⟩
end

/-! ## for -/
def forL (t : MG) (b : MS) : List D → MS
  | [], ρ => some (.nx ρ)
  | d :: r, ρ => (t d ρ).bind fun ρ1 => (b ρ1).bind fun o => match o with
    | .nx ρ2 => forL t b r ρ2
    | .ct ρ2 => forL t b r ρ2
    | .bk ρ2 => some (.nx ρ2)
    | o => some o
def forM' (it : MI) (t : MG) (b : MS) : MS := fun ρ => (it ρ).bind fun x => forL t b x.1 x.2
theorem ss_for {X : Cx} {tg iter : Expr} {ss : List Stmt} {it : MI} {ks : List Nat} {t : MG} {b : MS} {pos : Pos} (hp : PassesOwn (model X.prog X.w) X.A X.env X.xe) (hc : X.calm = true) (hi : SI X tg iter it) (hg : SG X tg ks t) (hb : SSs X ss b)
    (hs : ∀ x, foldedSetIterable iter X.env x = pure x := by intro _; rfl) : SS X (.For tg iter ss [] pos) (forM' it t b) := by
  refine ps_wk (ps_for hp hc hi hg hb hs) ?_
  rintro E σ H ⟨M0, W0, O, ρ, o, r, ev, q⟩
  simp only [forM', Option.bind_eq_some_iff] at ev
  obtain ⟨⟨ds, ρ1⟩, e1, e2⟩ := ev
  refine ⟨M0, W0, O, ρ, ds, ρ1, r, e1, fun J H1 O1 G Y w r1 x1 hG hY => ?_⟩
  refine for_it (D := E) w (fun i σ2 H2 => ∃ O2 ρ2, Rel X.K M0 W0 O2 ρ2 σ2 H2 ∧ Ext W0 O1 H1 O2 H2 ∧ forL t b (ds.drop i) ρ2 = some o) ⟨O1, ρ1, r1, .refl, e2⟩ ?_ ?_ ?_
  · rintro i σ2 H2 hi ⟨O2, ρ2, r2, x2, _⟩
    exact hG O2 H2 x2
  · rintro i x σ2 H2 H3 hi ⟨O2, ρ2, r2, x2, h2⟩ y
    obtain ⟨s3, d, hd, pd⟩ := hY i O2 H2 x H3 hi x2 r2.mDom y
    rw [List.drop_eq_getElem_cons hi] at h2
    have ed : ds[i] = d := Option.some.inj ((List.getElem?_eq_getElem hi).symm.trans hd)
    rw [ed] at h2
    simp only [forL, Option.bind_eq_some_iff] at h2
    obtain ⟨ρ3, e3, o3, e4, e5⟩ := h2
    have r3 := r2.same s3
    refine ⟨M0, W0, O2, ρ2, d, ρ3, r3, pd, e3, fun σ4 H4 O4 r4 x4 _ _ => ?_⟩
    have x24 : Ext W0 O1 H1 O4 H4 := (x2.trans (.same s3)).trans x4
    refine ⟨M0, W0, O4, ρ3, o3, r4, e4, ?_⟩
    cases o3 with
    | nx ρ5 => exact fun σ5 H5 O5 r5 x5 => ⟨O5, ρ5, r5, x24.trans x5, e5⟩
    | ct ρ5 => exact fun σ5 H5 O5 r5 x5 => ⟨O5, ρ5, r5, x24.trans x5, e5⟩
    | bk ρ5 =>
      cases e5
      exact fun σ5 H5 O5 r5 x5 => q σ5 H5 O5 r5 ((x1.trans x24).trans x5)
    | rt d5 ρ5 =>
      cases e5
      exact fun v σ5 H5 O5 r5 x5 p5 => q v σ5 H5 O5 r5 ((x1.trans x24).trans x5) p5
    | rf d5 ρ5 =>
      cases e5
      exact fun v σ5 H5 O5 r5 x5 hp w5 => q v σ5 H5 O5 r5 ((x1.trans x24).trans x5) hp w5
  · rintro σ2 H2 ⟨O2, ρ2, r2, x2, h2⟩
    rw [List.drop_length] at h2
    cases h2
    exact q σ2 H2 O2 r2 (x1.trans x2)
end MP

set_option maxRecDepth 100000
namespace MP
open PySem PySem.Spec PyProof.Rows L2

/-! ## comprehensions -/
def wipeE (ρ : Env') : List Nat → Env'
  | [] => ρ
  | v :: vs => (wipeE ρ vs).set v .no
def restE (ρ ρ' : Env') : List Nat → Env'
  | [] => ρ'
  | v :: vs => match ρ[v]? with
    | some c => (restE ρ ρ' vs).set v c
    | none => restE ρ ρ' vs
def okW (ρ : Env') (vs : List Nat) : Bool := vs.all fun k => match ρ[k]? with
  | some (.own _) => false
  | some (.io _) => false
  | _ => true
theorem wipeE_length (ρ : Env') : ∀ vs : List Nat, (wipeE ρ vs).length = ρ.length
  | [] => rfl
  | v :: vs => by unfold wipeE; rw [List.length_set, wipeE_length ρ vs]
theorem restE_length (ρ ρ' : Env') : ∀ vs : List Nat, (restE ρ ρ' vs).length = ρ'.length
  | [] => rfl
  | v :: vs => by
    unfold restE
    split
    · rw [List.length_set, restE_length ρ ρ' vs]
    · exact restE_length ρ ρ' vs
theorem wipeE_out {ρ : Env'} {i : Nat} : ∀ {vs : List Nat}, i ∉ vs → (wipeE ρ vs)[i]? = ρ[i]?
  | [], _ => rfl
  | v :: vs, h => by
    simp only [List.mem_cons, not_or] at h
    unfold wipeE
    rw [List.getElem?_set_ne (Ne.symm h.1), wipeE_out h.2]
theorem wipeE_in {ρ : Env'} {i : Nat} {c : Cell} : ∀ {vs : List Nat}, i ∈ vs → (wipeE ρ vs)[i]? = some c → c = .no
  | [], h, _ => by cases h
  | v :: vs, h, e => by
    unfold wipeE at e
    by_cases hv : v = i
    · subst hv
      by_cases hl : v < (wipeE ρ vs).length
      · rw [List.getElem?_set_self hl] at e; cases e; rfl
      · rw [List.getElem?_eq_none (by simpa using hl)] at e; cases e
    · rw [List.getElem?_set_ne hv] at e
      rcases List.mem_cons.mp h with z | z
      · exact absurd z.symm hv
      · exact wipeE_in z e
theorem restE_out {ρ ρ' : Env'} {i : Nat} : ∀ {vs : List Nat}, i ∉ vs → (restE ρ ρ' vs)[i]? = ρ'[i]?
  | [], _ => rfl
  | v :: vs, h => by
    simp only [List.mem_cons, not_or] at h
    unfold restE
    split
    · rw [List.getElem?_set_ne (Ne.symm h.1), restE_out h.2]
    · exact restE_out h.2
theorem restE_in {ρ ρ' : Env'} {i : Nat} (hl : ρ.length = ρ'.length) : ∀ {vs : List Nat}, i ∈ vs → (restE ρ ρ' vs)[i]? = ρ[i]?
  | [], h => by cases h
  | v :: vs, h => by
    unfold restE
    by_cases hv : v = i
    · subst hv
      split
      · rename_i c e
        have hlt : v < ρ.length := (List.getElem?_eq_some_iff.mp e).1
        rw [List.getElem?_set_self (by rw [restE_length, ← hl]; exact hlt), e]
      · rename_i e
        rw [e]
        have := List.getElem?_eq_none_iff.mp e
        exact List.getElem?_eq_none_iff.mpr (by rw [restE_length, ← hl]; exact this)
    · have h' : i ∈ vs := by
        rcases List.mem_cons.mp h with z | z
        · exact absurd z.symm hv
        · exact z
      split
      · rw [List.getElem?_set_ne hv]; exact restE_in hl h'
      · exact restE_in hl h'
theorem wipe_out' {σ : L2.St} {i : Nat} : ∀ {vs : List Nat}, i ∉ vs → (wipe σ vs)[i]? = σ[i]?
  | [], _ => rfl
  | v :: vs, h => by
    simp only [List.mem_cons, not_or] at h
    unfold wipe
    rw [List.getElem?_set_ne (Ne.symm h.1), wipe_out' h.2]
theorem wipe_in' {σ : L2.St} {i : Nat} : ∀ {vs : List Nat}, i ∈ vs → i < σ.length → (wipe σ vs)[i]? = some none
  | [], h, _ => by cases h
  | v :: vs, h, hl => by
    unfold wipe
    by_cases hv : v = i
    · subst hv
      rw [List.getElem?_set_self (by rw [wipe_length]; exact hl)]
    · rw [List.getElem?_set_ne hv]
      rcases List.mem_cons.mp h with z | z
      · exact absurd z.symm hv
      · exact wipe_in' z hl
theorem wipe_eq {σ σ' : L2.St} {vs : List Nat} (hl : σ'.length = σ.length) (h : ∀ k, k ∉ vs → σ'[k]? = σ[k]?) : wipe σ' vs = wipe σ vs := by
  refine List.ext_getElem? fun i => ?_
  by_cases hi : i ∈ vs
  · by_cases hl' : i < σ.length
    · rw [wipe_in' hi hl', wipe_in' hi (by rw [hl]; exact hl')]
    · rw [List.getElem?_eq_none (by rw [wipe_length, hl]; omega), List.getElem?_eq_none (by rw [wipe_length]; omega)]
  · rw [wipe_out' hi, wipe_out' hi, h i hi]
theorem wipe_wipe (σ : L2.St) (vs : List Nat) : wipe (wipe σ vs) vs = wipe σ vs := wipe_eq (wipe_length σ vs) fun k hk => wipe_out' hk

section
variable {K : FragK} {M0 W0 O : AS} {ρ : Env'} {σ : L2.St} {H : Hp}
/-- the block's own slots forgotten -/
theorem Rel.wipe (r : Rel K M0 W0 O ρ σ H) (vs : List Nat) : Rel K M0 W0 O (wipeE ρ vs) (L2.wipe σ vs) H := by
  have out : ∀ (k : Nat) (c : Cell), (wipeE ρ vs)[k]? = some c → c ≠ .no → ρ[k]? = some c ∧ (L2.wipe σ vs)[k]? = σ[k]? := fun k c hk hc => by
    by_cases hv : k ∈ vs
    · exact absurd (wipeE_in hv hk) hc
    · rw [wipeE_out hv] at hk
      exact ⟨hk, wipe_out' hv⟩
  refine ⟨r.wsub, r.mdom, r.disj, by rw [wipeE_length, L2.wipe_length]; exact r.len, fun k d hk => ?_, fun k d hk => ?_, fun k d hk => ?_, fun i j c e q ne hi hj hc he s1 s2 => ?_⟩
  · obtain ⟨h1, h2⟩ := out k _ hk (by simp)
    rw [h2]; exact r.sh k d h1
  · obtain ⟨h1, h2⟩ := out k _ hk (by simp)
    rw [h2]; exact r.own k d h1
  · obtain ⟨h1, h2⟩ := out k _ hk (by simp)
    rw [h2]; exact r.io k d h1
  · obtain ⟨h1, h2⟩ := out i c hi (by rintro rfl; cases hc)
    obtain ⟨h3, h4⟩ := out j e hj (by rintro rfl; cases he)
    rw [h2] at s1; rw [h4] at s2
    exact r.uniq i j c e q ne h1 h3 hc he s1 s2
/-- the new list is kept apart while its items are made -/
theorem Rel.aside (r : Rel K M0 W0 O ρ σ H) {p : Addr} {o : HO} (n : H p = none) : Rel K (fun a => M0 a ∨ a = p) W0 O ρ σ (upd H p o) := by
  have np : ¬ (mm M0 O) p := r.mDom.new n
  have st : Stab (mm M0 O) (mm (fun a => M0 a ∨ a = p) O) H (upd H p o) := fun a ob ha hm => ⟨same_upd n a ob ha, by
    rintro ((z | z) | z)
    · exact hm (.inl z)
    · subst z; rw [n] at ha; cases ha
    · exact hm (.inr z)⟩
  refine ⟨fun a h => .inl (r.wsub a h), fun a ha => ?_, fun a ha => ?_, r.len, fun k d hk => ?_, fun k d hk => ?_, fun k d hk => ?_, r.uniq⟩
  · rcases ha with (z | z) | z
    · obtain ⟨ob, e⟩ := r.mdom a (.inl z); exact ⟨ob, same_upd n a ob e⟩
    · subst z; exact ⟨o, upd_same⟩
    · obtain ⟨ob, e⟩ := r.mdom a (.inr z); exact ⟨ob, same_upd n a ob e⟩
  · rintro (z | z)
    · exact r.disj a ha z
    · subst z; exact np (.inr ha)
  · obtain ⟨v, ev, pv⟩ := r.sh k d hk
    exact ⟨v, ev, pv.stab st⟩
  · obtain ⟨b, ev, ob, w⟩ := r.own k d hk
    exact ⟨b, ev, ob, w.stab st (upd_ne fun z => np (.inr (by rw [← z]; exact ob)))⟩
  · obtain ⟨b, ev, ob, w⟩ := r.io k d hk
    exact ⟨b, ev, ob, w.stab st (upd_ne fun z => np (.inl (r.wsub _ (by rw [← z]; exact ob))))⟩
/-- .. and grows -/
theorem Rel.grow {p : Addr} {o o' : HO} (r : Rel K M0 W0 O ρ σ H) (hp : M0 p) (hw : ¬ W0 p) (e : H p = some o) : Rel K M0 W0 O ρ σ (upd H p o') := by
  have st : Stab (mm M0 O) (mm M0 O) H (upd H p o') := fun a ob ha hm => ⟨by
    rw [upd_ne (show a ≠ p from fun z => hm (.inl (by rw [z]; exact hp)))]; exact ha, hm⟩
  refine ⟨r.wsub, fun a ha => ?_, r.disj, r.len, fun k d hk => ?_, fun k d hk => ?_, fun k d hk => ?_, r.uniq⟩
  · by_cases z : a = p
    · subst z; exact ⟨o', upd_same⟩
    · rw [upd_ne z]; exact r.mdom a ha
  · obtain ⟨v, ev, pv⟩ := r.sh k d hk
    exact ⟨v, ev, pv.stab st⟩
  · obtain ⟨b, ev, ob, w⟩ := r.own k d hk
    exact ⟨b, ev, ob, w.stab st (upd_ne fun z => r.disj b ob (by rw [z]; exact hp))⟩
  · obtain ⟨b, ev, ob, w⟩ := r.io k d hk
    exact ⟨b, ev, ob, w.stab st (upd_ne fun z => hw (by rw [← z]; exact ob))⟩
end

def compL (t : MG) (c : MT) (f : ME) (vs : List Nat) : List D → Env' → Option (List D × Env')
  | [], ρ => some ([], ρ)
  | d :: r, ρ => (t d ρ).bind fun ρ1 => (c ρ1).bind fun b => if b.1 = true then (f b.2).bind fun y => (compL t c f vs r (wipeE y.2 vs)).bind fun z => some (y.1 :: z.1, z.2)
    else compL t c f vs r (wipeE b.2 vs)
def lcV (it : MI) (vs : List Nat) (t : MG) (c : MT) (f : ME) : ME := fun ρ => (it ρ).bind fun x => if x.1.length ≤ sizeLine ∧ okW x.2 vs = true then
    (compL t c f vs x.1 (wipeE x.2 vs)).bind fun y => some (.list y.1, restE x.2 y.2 vs)
  else none
def yesT : MT := fun ρ => some (true, ρ)
abbrev SPs (X : Cx) (ifs : List Expr) (c : MT) : Prop := PTs X ifs (tT X.K c)
theorem sps_nil {X : Cx} : SPs X [] yesT := ⟨fun pins s σ H Q I h => by
  obtain ⟨M0, W0, O, ρ, b, ρ', r, e, q⟩ := h
  cases e
  exact pts_nil.run pins s σ H Q I (q H O r .refl)⟩
theorem sps_one {X : Cx} {c : Expr} {t : MT} (h : SB X c t) : SPs X [c] t := pts_one h
/-- the block's context -/
abbrev Blk (X : Cx) (scope : Scope) (s : Shared) (H : Hp) (C : Addr) (cl : List (Str × Addr)) (fp : List Addr) : Cx := X.blk s H scope (compEnvC scope cl C X.env) fp
theorem lc_ok {K : FragK} {it : MI} {own : List (Str × Nat)} {ks : List Nat} {t : MG} {c : MT} {f : ME} (hk : ∀ k ∈ ks, k ∈ own.map (·.2)) :
    ∀ (σ : L2.St) (H : Hp) (Q : VK), tF K (lcV it (own.map (·.2)) t c f) σ H Q → tLc (tI K it) (tG K ks t) (tT K c) (tE K f) (own.map (·.2)) σ H Q := by
  generalize own.map (·.2) = vs at hk
  rintro σ H Q ⟨M0, W0, O, ρ, d, ρ', r, ev, q⟩
  simp only [lcV, Option.bind_eq_some_iff] at ev
  obtain ⟨⟨ds, ρ1⟩, e1, ev⟩ := ev
  split at ev
  case isFalse => cases ev
  rename_i hz
  obtain ⟨hz, hw⟩ := hz
  obtain ⟨⟨full, ρe⟩, e2, e3⟩ := Option.bind_eq_some_iff.mp ev
  cases e3
  refine ⟨M0, W0, O, ρ, ds, ρ1, r, e1, fun J H1 O1 G Y w r1 x1 hG hY => fun D hD => ?_⟩
  have nD : ¬ (mm M0 O1) D := r1.mDom.new hD
  have nW : ¬ W0 D := fun z => nD (.inl (r1.wsub _ z))
  refine lc_it w (fun i H2 => ∃ O2 ρ2 acc accD rest, Rel K (fun a => M0 a ∨ a = D) W0 O2 ρ2 (L2.wipe σ vs) H2 ∧ Ext W0 O1 H1 O2 H2 ∧ ¬ O2 D ∧ H2 D = some (.lst acc) ∧ Rps K (mm (fun a => M0 a ∨ a = D) O2) H2 acc accD ∧
    accD.length ≤ i ∧ compL t c f vs (ds.drop i) ρ2 = some (rest, ρe) ∧ accD ++ rest = full) ?_ ?_ ?_ ?_
  · refine ⟨O1, wipeE ρ1 vs, [], [], full, (r1.wipe vs).aside hD, .same (same_upd hD), fun z => nD (.inr z), upd_same, .nil, Nat.le_refl _, e2, rfl⟩
  · rintro i H2 hi ⟨O2, ρ2, acc, accD, rest, r2, x2, _⟩
    exact hG O2 H2 x2
  · rintro i x H2 H3 hi ⟨O2, ρ2, acc, accD, rest, r2, x2, nO, eD, pa, la, ec, ef⟩ y
    have x2' : Ext W0 O1 H1 (fun a => O2 a ∨ a = D) H2 := ⟨x2.keep, fun a ha => by
      rcases ha with z | z
      · exact x2.old a z
      · subst z; exact .inr hD, x2.dom⟩
    obtain ⟨s3, dd, hd, pd⟩ := hY i (fun a => O2 a ∨ a = D) H2 x H3 hi x2' (fun a ha => r2.mdom a (by
      rcases ha with z | z | z
      · exact .inl (.inl z)
      · exact .inr z
      · exact .inl (.inr z))) y
    have r3 := r2.same s3
    have pd' : Rp K (mm (fun a => M0 a ∨ a = D) O2) H3 x dd := pd.stab fun a o ha hm => ⟨ha, by
      rintro ((z | z) | z)
      · exact hm (.inl z)
      · exact hm (.inr (.inr z))
      · exact hm (.inr (.inl z))⟩
    rw [List.drop_eq_getElem_cons hi] at ec
    have ed : ds[i] = dd := Option.some.inj ((List.getElem?_eq_getElem hi).symm.trans hd)
    rw [ed] at ec
    simp only [compL, Option.bind_eq_some_iff] at ec
    obtain ⟨ρ3, e4, ⟨b, ρ4⟩, e5, ec⟩ := ec
    have x3 : Ext W0 O1 H1 O2 H3 := x2.trans (.same s3)
    refine ⟨_, W0, O2, ρ2, dd, ρ3, r3, pd', e4, fun σ4 H4 O4 r4 x4 l4 k4 => ⟨?_, ?_⟩⟩
    · have h := wipe_eq (vs := vs) l4 fun k hkv => k4 k fun z => hkv (hk k z)
      rw [h, wipe_wipe]
    · have wσ : L2.wipe σ4 vs = L2.wipe σ vs := by
        have h := wipe_eq (vs := vs) l4 fun k hkv => k4 k fun z => hkv (hk k z)
        rw [h, wipe_wipe]
      refine ⟨_, W0, O4, ρ3, b, ρ4, r4, e5, fun H5 O5 r5 x5 => ?_⟩
      have x25 : Ext W0 O2 H2 O5 H5 := ((Ext.same s3).trans x4).trans x5
      have eD5 : H5 D = some (.lst acc) := x25.keep D _ eD nW nO
      have nO5 : ¬ O5 D := fun z => r5.disj D z (.inr rfl)
      have pa5 := pa.stab (x25.stab r2.wsub)
      cases b with
      | false =>
        rw [if_neg Bool.false_ne_true] at ec
        refine L2.iteF ?_
        have r6 := r5.wipe vs
        rw [wσ] at r6
        exact ⟨O5, wipeE ρ4 vs, acc, accD, rest, r6, x2.trans x25, nO5, eD5, pa5, Nat.le_succ_of_le la, ec, ef⟩
      | true =>
        rw [if_pos rfl] at ec
        refine L2.iteT ?_
        obtain ⟨⟨y5, ρ5⟩, e6, ⟨rest2, ρ6⟩, e7, e8⟩ := (by simpa only [Option.bind_eq_some_iff] using ec : ∃ a, f ρ4 = some a ∧ ∃ b, compL t c f vs (List.drop (i + 1) ds) (wipeE a.2 vs) = some b ∧ some (a.1 :: b.1, b.2) = some (rest, ρe))
        cases e8
        refine ⟨_, W0, O5, ρ4, y5, ρ5, r5, e6, fun v H6 O6 r6 x6 p6 => ?_⟩
        have x26 := x25.trans x6
        have eD6 : H6 D = some (.lst acc) := x26.keep D _ eD nW nO
        have nO6 : ¬ O6 D := fun z => r6.disj D z (.inr rfl)
        have pa6 := pa.stab (x26.stab r2.wsub)
        refine ⟨acc, eD6, ?_, ?_⟩
        · rw [pa.length]
          exact Nat.lt_of_le_of_lt la (Nat.lt_of_lt_of_le hi hz)
        · have r7 := (r6.grow (o' := .lst (acc ++ [v])) (.inr rfl) nW eD6).wipe vs
          rw [wσ] at r7
          have st : Stab (mm (fun a => M0 a ∨ a = D) O6) (mm (fun a => M0 a ∨ a = D) O6) H6 (upd H6 D (.lst (acc ++ [v]))) := fun a ob ha hm => ⟨by
            rw [upd_ne (show a ≠ D from fun z => hm (.inl (.inr z)))]; exact ha, hm⟩
          refine ⟨O6, wipeE ρ5 vs, acc ++ [v], accD ++ [y5], rest2, r7, ?_, nO6, upd_same, (pa6.append (.cons p6 .nil)).stab st, by simp; exact la, e7, by simpa using ef⟩
          have x := x2.trans x26
          refine ⟨fun a ob ha h1 h2 => ?_, x.old, fun a ob ha => ?_⟩
          · rw [upd_ne (ne_of_none ha hD)]; exact x.keep a ob ha h1 h2
          · obtain ⟨o', e'⟩ := x.dom a ob ha
            exact ⟨o', by rw [upd_ne (ne_of_none ha hD)]; exact e'⟩
  · rintro H2 ⟨O2, ρ2, acc, accD, rest, r2, x2, nO, eD, pa, la, ec, ef⟩
    rw [List.drop_length] at ec
    simp only [compL, Option.some.injEq, Prod.mk.injEq] at ec
    obtain ⟨rfl, rfl⟩ := ec
    rw [List.append_nil] at ef
    subst ef
    have st : Stab (mm (fun a => M0 a ∨ a = D) O2) (mm M0 fun a => O2 a ∨ a = D) H2 H2 := fun a o ha hm => ⟨ha, by
      rintro (z | z | z)
      · exact hm (.inl (.inl z))
      · exact hm (.inr z)
      · exact hm (.inl (.inr z))⟩
    have st1 : Stab (mm M0 O1) (mm M0 fun a => O2 a ∨ a = D) H1 H2 := fun a o ha hm => by
      have h1 : ¬ M0 a := fun z => hm (.inl z)
      have h2 : ¬ O1 a := fun z => hm (.inr z)
      refine ⟨x2.keep a o ha (fun z => h1 (r1.wsub a z)) h2, ?_⟩
      rintro (z | z | z)
      · exact h1 z
      · rcases x2.old a z with z | z
        · exact h2 z
        · rw [ha] at z; cases z
      · subst z; rw [hD] at ha; cases ha
    have hl : ρ1.length = ρ2.length := by rw [r1.len, r2.len, L2.wipe_length]
    have cut : ∀ (k : Nat) (cl : Cell), (restE ρ1 ρ2 vs)[k]? = some cl → cl.mut?.isSome = true → k ∉ vs ∧ ρ2[k]? = some cl := fun k cl hkc hm => by
      by_cases hv : k ∈ vs
      · rw [restE_in hl hv] at hkc
        have := List.all_eq_true.mp hw k hv
        rw [hkc] at this
        cases cl with
        | no => cases hm
        | sh d => cases hm
        | own d => cases this
        | io d => cases this
      · rw [restE_out hv] at hkc
        exact ⟨hv, hkc⟩
    have rel : Rel K M0 W0 (fun a => O2 a ∨ a = D) (restE ρ1 ρ2 vs) σ H2 := by
      refine ⟨r1.wsub, fun a ha => r2.mdom a ?_, fun a ha => ?_, by rw [restE_length, ← hl]; exact r1.len, fun k d hkc => ?_, fun k d hkc => ?_, fun k d hkc => ?_, fun i j cc e p ne hi hj hc he s1 s2 => ?_⟩
      · rcases ha with z | z | z
        · exact .inl (.inl z)
        · exact .inr z
        · exact .inl (.inr z)
      · rcases ha with z | z
        · exact fun m => r2.disj a z (.inl m)
        · subst z; exact fun m => nD (.inl m)
      · by_cases hv : k ∈ vs
        · rw [restE_in hl hv] at hkc
          obtain ⟨v, ev, pv⟩ := r1.sh k d hkc
          exact ⟨v, ev, pv.stab st1⟩
        · rw [restE_out hv] at hkc
          obtain ⟨v, ev, pv⟩ := r2.sh k d hkc
          rw [wipe_out' hv] at ev
          exact ⟨v, ev, pv.stab st⟩
      · obtain ⟨hv, hkc⟩ := cut k _ hkc rfl
        obtain ⟨b, ev, ob, w⟩ := r2.own k d hkc
        rw [wipe_out' hv] at ev
        exact ⟨b, ev, .inl ob, w.stab st rfl⟩
      · obtain ⟨hv, hkc⟩ := cut k _ hkc rfl
        obtain ⟨b, ev, ob, w⟩ := r2.io k d hkc
        rw [wipe_out' hv] at ev
        exact ⟨b, ev, ob, w.stab st rfl⟩
      · obtain ⟨hv, hi'⟩ := cut i _ hi hc
        obtain ⟨hv', hj'⟩ := cut j _ hj he
        rw [← wipe_out' hv] at s1
        rw [← wipe_out' hv'] at s2
        exact r2.uniq i j cc e p ne hi' hj' hc he s1 s2
    refine q D H2 _ rel (x1.trans ⟨x2.keep, fun a ha => ?_, x2.dom⟩) (.inr rfl) (fun k cl hkc hm z => ?_) (.lst eD (pa.stab st))
    · rcases ha with z | z
      · exact x2.old a z
      · subst z; exact .inr hD
    · obtain ⟨hv, hkc⟩ := cut k _ hkc hm
      cases cl with
      | no => cases hm
      | sh d => cases hm
      | own d =>
        obtain ⟨b, ev, ob, w⟩ := r2.own k d hkc
        rw [wipe_out' hv, z] at ev; cases ev
        exact nO ob
      | io d =>
        obtain ⟨b, ev, ob, w⟩ := r2.io k d hkc
        rw [wipe_out' hv, z] at ev; cases ev
        exact nW ob
section
variable {X : Cx} {elt tg iter : Expr} {ifs : List Expr} {scope : Scope} {own : List (Str × Nat)} {pos : Pos} {it : MI} {ks : List Nat} {t : MG} {c : MT} {f : ME}
theorem sf_lc (hc : X.calm = true) (hN : X.N.Nodup) (hi : SI X tg iter it) (ok : BlkOk X.N X.env.scope scope own) (hk : ∀ k ∈ ks, k ∈ own.map (·.2))
    (hg : ∀ (s : Shared) (H : Hp) (C : Addr) (cl : List (Str × Addr)) (fp : List Addr), SG (Blk X scope s H C cl fp) tg ks t) (ht : ∀ (s : Shared) (H : Hp) (C : Addr) (cl : List (Str × Addr)) (fp : List Addr), SPs (Blk X scope s H C cl fp) ifs c)
    (he : ∀ (s : Shared) (H : Hp) (C : Addr) (cl : List (Str × Addr)) (fp : List Addr), SE (Blk X scope s H C cl fp) elt f) (hs : ∀ x, foldedSetIterable iter X.env x = pure x := by intro _; rfl) :
    SF X (.ListComp elt [⟨tg, iter, ifs, 0⟩] scope pos) (lcV it (own.map (·.2)) t c f) :=
  pe_wk (pe_lc hc hN hi ok hg ht he hs) fun σ H Q q => lc_ok hk σ H Q q
/-- name = [..] on one line, the name a local of the def -/
theorem ss_lcF {i : Nat} {y : Str} {py spos : Pos} (hc : X.calm = true) (hN : X.N.Nodup) (hy : X.N[i]? = some y) (hyl : X.env.scope.names.lookup y = some .local)
    (hsw : swapsWith (.ListComp elt [⟨tg, iter, ifs, 0⟩] scope pos) (some (.Name y py)) spos.line X.env = pure true) (hi : SI X tg iter it) (ok : BlkOk X.N X.env.scope scope own) (hk : ∀ k ∈ ks, k ∈ own.map (·.2))
    (hg : ∀ (s : Shared) (H : Hp) (C : Addr) (cl : List (Str × Addr)) (fp : List Addr), SG (Blk X scope s H C cl fp) tg ks t) (ht : ∀ (s : Shared) (H : Hp) (C : Addr) (cl : List (Str × Addr)) (fp : List Addr), SPs (Blk X scope s H C cl fp) ifs c)
    (he : ∀ (s : Shared) (H : Hp) (C : Addr) (cl : List (Str × Addr)) (fp : List Addr), SE (Blk X scope s H C cl fp) elt f) (hs : ∀ x, foldedSetIterable iter X.env x = pure x := by intro _; rfl) :
    SS X (.Assign [.Name y py] (.ListComp elt [⟨tg, iter, ifs, 0⟩] scope pos) spos) (asgF i (lcV it (own.map (·.2)) t c f)) := by
  refine ps_wk (ps_setLc (g := tG X.K ks t) (tt := tT X.K c) (te := tE X.K f) hc hN hy hyl hsw hi ok hg ht he hs) ?_
  rintro E σ H ⟨M0, W0, O, ρ, o, r, ev, q⟩
  simp only [asgF, Option.bind_eq_some_iff] at ev
  obtain ⟨⟨d, ρ1⟩, e1, e2⟩ := ev
  cases e2
  exact lc_ok hk σ H _ ⟨M0, W0, O, ρ, d, ρ1, r, e1, fun p H1 O1 r1 x1 hp u w => q _ H1 O1 (r1.setOwn hp u w) x1⟩
theorem ss_lc {i : Nat} {y : Str} {py spos : Pos} (hc : X.calm = true) (hN : X.N.Nodup) (hy : X.N[i]? = some y) (hyl : X.env.scope.names.lookup y = some .local)
    (hsw : swapsWith (.ListComp elt [⟨tg, iter, ifs, 0⟩] scope pos) (some (.Name y py)) spos.line X.env = pure true) (hi : SI X tg iter it) (ok : BlkOk X.N X.env.scope scope own) (hk : ∀ k ∈ ks, k ∈ own.map (·.2))
    (hg : ∀ (s : Shared) (H : Hp) (C : Addr) (cl : List (Str × Addr)) (fp : List Addr), SG (Blk X scope s H C cl fp) tg ks t) (ht : ∀ (s : Shared) (H : Hp) (C : Addr) (cl : List (Str × Addr)) (fp : List Addr), SPs (Blk X scope s H C cl fp) ifs c)
    (he : ∀ (s : Shared) (H : Hp) (C : Addr) (cl : List (Str × Addr)) (fp : List Addr), SE (Blk X scope s H C cl fp) elt f) (hs : ∀ x, foldedSetIterable iter X.env x = pure x := by intro _; rfl) :
    SS X (.Assign [.Name y py] (.ListComp elt [⟨tg, iter, ifs, 0⟩] scope pos) spos) (asgM i (lcV it (own.map (·.2)) t c f)) := by
  refine ps_wk (ps_setLc (g := tG X.K ks t) (tt := tT X.K c) (te := tE X.K f) hc hN hy hyl hsw hi ok hg ht he hs) ?_
  rintro E σ H ⟨M0, W0, O, ρ, o, r, ev, q⟩
  simp only [asgM, Option.bind_eq_some_iff] at ev
  obtain ⟨⟨d, ρ1⟩, e1, e2⟩ := ev
  cases e2
  refine lc_ok hk σ H _ ⟨M0, W0, O, ρ, d, ρ1, r, e1, fun p H1 O1 r1 x1 hp u w => ?_⟩
  obtain ⟨b1, b2, b3⟩ := r1.freeze hp u w
  exact q _ H1 _ (b1.setSh b3) (x1.trans b2)
end
end MP

set_option maxRecDepth 100000
namespace MP
open PySem PySem.Spec PyProof.Rows L2

/-! ## defs -/
abbrev SpG := List V → Hp → VK → Prop
/-- a def's promise, where no repr runs around -/
structure FnG (P : Program) (w : World) (K : FragK) (mg : Str → Option Value) (base : Heap) (k : Nat) (f : Addr) (fd : FuncData) (ps : List Str) (sp : SpG) : Prop where
  len : ∀ vs H Q, sp vs H Q → vs.length = ps.length
  run : ∀ (A : Around) (outer : List Env) (s : Shared) (H : Hp) (args : Args) (us : List Value) (vs : List V) (Q : VK), Room k A → A.guards = some [] → Env0 P w K mg base A outer s H → BindsTo s fd args (ps.zip us) → Vals vs us → sp vs H Q →
    codeAny (model P w) A (.call (.ref f) args) (CR CX0 outer P w H s Q E0) s
theorem FnG.mono {P : Program} {w : World} {K : FragK} {mg : Str → Option Value} {base : Heap} {j k : Nat} {f : Addr} {fd : FuncData} {ps : List Str} {sp : SpG} (F : FnG P w K mg base j f fd ps sp) (h : j ≤ k) : FnG P w K mg base k f fd ps sp :=
  ⟨F.len, fun A outer s H args us vs Q hr => F.run A outer s H args us vs Q (hr.mono h)⟩

section
variable {P : Program} {w : World} {K : FragK} {mg : Str → Option Value} {base : Heap}
/-- by the body -/
theorem fnG_of {k : Nat} {f : Addr} {fd : FuncData} {x qual : Str} {params : Arguments} {body : List Stmt} {scope : Scope} {N ps : List Str} {sp : SpG} (F : FunD K x qual params body scope [] [] f fd) (S : FnScope N ps scope) (len : ∀ vs H Q, sp vs H Q → vs.length = ps.length)
    (hbody : ∀ (cdv : Value) (A : Around) (outer : List Env) (s : Shared) (H : Hp) (vs : List V) (Q : VK), Room k (A.deeper (envOfC qual scope s.heap.objs.size f cdv)) → A.guards = some [] → sp vs H Q →
      ∃ t, PSs (cxOf CX0 P w K mg base N qual scope f cdv A outer s H E0).nox body t ∧ t { nx := fun _ H' => Q .non H', rt := Q } (L2.start N vs) H) : FnG P w K mg base (k + 1) f fd ps sp := by
  obtain ⟨oc, od, dV, kV, doc, pm, an, cdv, ct, osl, rfl, lk, hcd, _, _⟩ := F.ex
  refine ⟨len, fun A outer s H args us vs Q hr hg e0 hb r hsp => ?_⟩
  have hl := len _ _ _ hsp
  have KX : K.In s.heap := e0.mod.kin.keeps fun b o e => (e0.bs b o e).1
  have lim : s.heap.NoLimit := e0.mod.nolimit.keeps fun b o e => (e0.bs b o e).1
  have slots : ∀ y ∈ ps.zip us, scope.names.lookup y.1 = some .local ∨ (scope.names.lookup y.1 = some .cell ∧ ((cellsFrom (s.heap.objs.size + 1) scope.names []).lookup y.1).isSome = true) := by
    rintro ⟨n, v⟩ hy
    cases S.par n (List.of_mem_zip hy).1 with
    | inl q => exact .inl q
    | inr q => exact .inr ⟨q, PySem.W.cellsFrom_some _ _ _ (.inl q)⟩
  refine codeAny_call_function hr.depth (KX _ _ lk) rfl S.co S.gen rfl (PySem.W.codeRec_of KX hcd) (hb _ _ _ _ ?_)
  refine wpAny_newFunctionEnv_cells S.kind slots fun env he s1 x => ?_
  subst he
  refine ⟨lim.keeps x.toInCall.keep, codeAny_func ?_⟩
  obtain ⟨t, ht, hq⟩ := hbody cdv A outer s H vs Q (hr.deeper _) hg hsp
  have I : Inv (cxOf CX0 P w K mg base N qual scope f cdv A outer s H E0) [] (L2.start N vs) H s1 := inv_start S hr.hd e0 hl r x
  refine wpAny_mono (ht.nox.run [] s1 (L2.start N vs) H _ I hq) (fun fl s2 hs => ?_) fun e s2 hs => hs
  cases fl with
  | ret u =>
    obtain ⟨v, σ2, H2, J, rv, q⟩ := hs
    exact ⟨v, H2, J.os, J.bare, J.base, J.hok, rv, q⟩
  | next =>
    obtain ⟨σ2, H2, J, q⟩ := hs
    exact ⟨.non, H2, J.os, J.bare, J.base, J.hok, rfl, q⟩
  | brk =>
    obtain ⟨_, _, _, q⟩ := hs
    exact False.elim q
  | cont =>
    obtain ⟨_, _, _, q⟩ := hs
    exact False.elim q
end
section
variable {X : Cx} {k : Nat} {f : Addr} {fd : FuncData} {ps : List Str} {sp : SpG} {x : Str} {p pos : Pos} {e : Expr} {es : List Expr} {t : TA}
theorem run_fnG {pins : List (Addr × Obj)} {σ : L2.St} {H : Hp} {s : Shared} {Q : VK} {args : Args} {us : List Value} {vs : List V} (F : FnG X.prog X.w X.K X.mg X.base k f fd ps sp) (hr : Room k X.A) (hg : X.A.guards = some []) (hb : BindsTo s fd args (ps.zip us))
    (I : Inv X pins σ H s) (r : Vals vs us) (h : sp vs H Q) : codeAny (model X.prog X.w) X.A (.call (.ref f) args) (fun r s' => match r with
      | .ok (.ret u) => EP X pins σ Q u s'
      | _ => False) s := by
  refine codeAny_mono (F.run X.A X.stack s H args us vs Q hr hg I.env0 hb r h) fun r s' hq => ?_
  cases r with
  | error e => exact False.elim hq
  | ok fl =>
    cases fl with
    | ret u => exact I.after hq
    | next => exact False.elim hq
    | brk => exact False.elim hq
    | cont => exact False.elim hq
theorem pe_callG (F : FnG X.prog X.w X.K X.mg X.base k f fd ps sp) (hr : Room k X.A) (hgu : X.A.guards = some []) (hg : Gl X x) (hm : X.mg x = some (.ref f)) (hk : PySem.W.keepIn X.K (.ref f) = true) (hb : Binds X.K fd ps [])
    (ha : PA X (e :: es) t) (hdb : (x == ("__debug__" : Str)) = false := by decide) (he : starEach (e :: es) X.env = (false, eval e X.env) :: starEach es X.env := by rfl) (hpl : (backTo pos (starEach es X.env)).any (·.1) = false := by rfl) :
    PE X (.Call (.Name x p) (e :: es) [] pos) (fun σ H Q => t σ H fun vs H1 => sp vs H1 Q) := by
  refine ⟨fun pins s σ H Q I h => ?_⟩
  refine wpAny_Call_Name_kw (ld_glob I hg hm ?_ hdb)
  refine PySem.W.callWith_K (h₀ := X.base) I.ok.mod.kin hk (thn (ha.run pos pins s σ H _ I h) fun us s1 ⟨vs, H1, I1, r, q⟩ => ⟨I1.kIn, ?_⟩) he hpl
  have hl : (us ++ []).length = ps.length := by rw [List.append_nil, ← r.length]; exact F.len _ _ _ q
  have hb' := hb s1 us I1.kIn hl
  rw [List.append_nil] at hb'
  refine wpAny_call (codeAny_mono (run_fnG F hr hgu hb' I1 r q) fun r s' hq => ?_)
  cases r with
  | error e => exact False.elim hq
  | ok fl =>
    cases fl with
    | ret u => exact hq
    | next => exact False.elim hq
    | brk => exact False.elim hq
    | cont => exact False.elim hq
theorem pe_callG0 (F : FnG X.prog X.w X.K X.mg X.base k f fd ps sp) (hr : Room k X.A) (hgu : X.A.guards = some []) (hg : Gl X x) (hm : X.mg x = some (.ref f)) (hk : PySem.W.keepIn X.K (.ref f) = true) (hb : Binds X.K fd ps [])
    (hdb : (x == ("__debug__" : Str)) = false := by decide) : PE X (.Call (.Name x p) [] [] pos) (fun σ H Q => sp [] H Q) := by
  refine ⟨fun pins s σ H Q I h => ?_⟩
  refine wpAny_Call_Name_kw (ld_glob I hg hm ?_ hdb)
  have hl : ([] ++ [] : List Value).length = ps.length := F.len _ _ _ h
  have hb' := hb s [] I.kIn hl
  refine PySem.W.callWith_K0 I.kIn hk (wpAny_call (codeAny_mono (run_fnG (us := []) F hr hgu hb' I .nil h) fun r s' hq => ?_))
  cases r with
  | error e => exact False.elim hq
  | ok fl =>
    cases fl with
    | ret u => exact hq
    | next => exact False.elim hq
    | brk => exact False.elim hq
    | cont => exact False.elim hq
end

/-! ## promises by data -/
/-- data in, a value out; nothing changes -/
def spA (K : FragK) (sem : List D → Option D) : SpG := fun vs H Q => ∃ (M : AS) (ds : List D) (d : D), MDom M H ∧ Rps K M H vs ds ∧ sem ds = some d ∧ ∀ v H', Same H H' → Rp K M H' v d → Q v H'
/-- .. a new object out -/
def spF (K : FragK) (sem : List D → Option D) : SpG := fun vs H Q => ∃ (M : AS) (ds : List D) (d : D), MDom M H ∧ Rps K M H vs ds ∧ sem ds = some d ∧ ∀ p H', Same H H' → H p = none → Ow K (fun a => M a ∨ a = p) H' p d → Q (.ref p) H'
/-- all but p stays -/
structure But (p : Addr) (H H' : Hp) : Prop where
  keep : ∀ a o, H a = some o → a ≠ p → H' a = some o
  dom : ∀ a o, H a = some o → ∃ o', H' a = some o'
/-- the first argument's object is changed -/
def spI (K : FragK) (sem : D → List D → Option (D × D)) : SpG := fun vs H Q => ∃ (M : AS) (p : Addr) (xs : List V) (c : D) (ds : List D) (d c' : D), vs = .ref p :: xs ∧ MDom M H ∧ M p ∧ Ow K M H p c ∧ Rps K M H xs ds ∧ sem c ds = some (d, c') ∧
  ∀ v H', But p H H' → Ow K M H' p c' → Rp K M H' v d → Q v H'
def startE (m : Nat) (ds : List D) : Env' := ds.map .sh ++ List.replicate m .no
def runA (o : Option Out) : Option D := o.bind fun o => match o with
  | .rt d _ => some d
  | .nx _ => some .none
  | _ => none
def runF (o : Option Out) : Option D := o.bind fun o => match o with
  | .rf d _ => some d
  | _ => none
def ioAt : Env' → Option D
  | .io c :: _ => some c
  | _ => none
theorem ioAt_of {ρ : Env'} {c : D} (h : ioAt ρ = some c) : ρ[0]? = some (.io c) := by
  unfold ioAt at h
  split at h
  · cases h; rfl
  · cases h
def runI (o : Option Out) : Option (D × D) := o.bind fun o => match o with
  | .rt d ρ => (ioAt ρ).map fun c => (d, c)
  | .nx ρ => (ioAt ρ).map fun c => (.none, c)
  | _ => none
theorem start_get {N : List Str} {vs : List V} {k : Nat} : (L2.start N vs)[k]? = if k < vs.length then vs[k]?.map some else (List.replicate (N.length - vs.length) none)[k - vs.length]? := by
  unfold L2.start
  rw [List.getElem?_append]
  simp
theorem rel_start {K : FragK} {M : AS} {H : Hp} {N : List Str} {vs : List V} {ds : List D} {m : Nat} (md : MDom M H) (r : Rps K M H vs ds) (hm : m = N.length - vs.length) : Rel K M (fun _ => False) (fun _ => False) (startE m ds) (L2.start N vs) H := by
  have hl := r.length
  have none_mut : ∀ (k : Nat) (c : Cell), (startE m ds)[k]? = some c → c.mut?.isSome = true → False := fun k c hk hc => by
    unfold startE at hk
    rw [List.getElem?_append] at hk
    split at hk
    · simp only [List.getElem?_map, Option.map_eq_some_iff] at hk
      obtain ⟨d, _, rfl⟩ := hk
      cases hc
    · rw [List.getElem?_replicate] at hk
      split at hk
      · cases hk; cases hc
      · cases hk
  refine ⟨fun _ h => h.elim, fun a h => h.elim (md a) False.elim, fun _ h => h.elim, ?_, fun k d hk => ?_, fun k d hk => (none_mut k _ hk rfl).elim, fun k d hk => (none_mut k _ hk rfl).elim, fun i j c e p ne hi hj hc he s1 s2 => none_mut i c hi hc⟩
  · unfold startE L2.start
    simp [hl, hm]
  · unfold startE at hk
    rw [List.getElem?_append] at hk
    split at hk
    · rename_i hlt
      simp only [List.getElem?_map, Option.map_eq_some_iff] at hk
      obtain ⟨d', hd, e⟩ := hk
      cases e
      obtain ⟨v, hv, pv⟩ := r.get hd
      refine ⟨v, ?_, pv.stab fun a o h1 h2 => ⟨h1, fun z => z.elim h2 False.elim⟩⟩
      rw [start_get, if_pos (by rw [hl]; simpa using hlt), hv]
      rfl
    · rw [List.getElem?_replicate] at hk
      split at hk <;> cases hk
theorem rel_startI {K : FragK} {M : AS} {H : Hp} {N : List Str} {p : Addr} {c : D} {vs : List V} {ds : List D} {m : Nat} (md : MDom M H) (mp : M p) (w : Ow K M H p c) (r : Rps K M H vs ds) (hm : m = N.length - (vs.length + 1)) :
    Rel K M (fun a => a = p) (fun _ => False) (.io c :: startE m ds) (L2.start N (.ref p :: vs)) H := by
  have hl := r.length
  have st : Stab M (mm M fun _ => False) H H := fun a o h1 h2 => ⟨h1, fun z => z.elim h2 False.elim⟩
  have none_mut : ∀ (k : Nat) (e : Cell), (startE m ds)[k]? = some e → e.mut?.isSome = true → False := fun k e hk hc => by
    unfold startE at hk
    rw [List.getElem?_append] at hk
    split at hk
    · simp only [List.getElem?_map, Option.map_eq_some_iff] at hk
      obtain ⟨d, _, rfl⟩ := hk
      cases hc
    · rw [List.getElem?_replicate] at hk
      split at hk
      · cases hk; cases hc
      · cases hk
  have only : ∀ (k : Nat) (e : Cell), (Cell.io c :: startE m ds)[k]? = some e → e.mut?.isSome = true → k = 0 ∧ e = .io c := fun k e hk he => by
    cases k with
    | zero => simp at hk; exact ⟨rfl, hk.symm⟩
    | succ k => exact (none_mut k e (by simpa using hk) he).elim
  refine ⟨fun a h => h ▸ mp, fun a h => h.elim (md a) False.elim, fun _ h => h.elim, ?_, fun k d hk => ?_, fun k d hk => ?_, fun k d hk => ?_, fun i j e f q ne hi hj hc he s1 s2 => ?_⟩
  · unfold startE L2.start
    simp only [List.length_cons, List.length_append, List.length_map, List.length_replicate, hl, hm]
    omega
  · cases k with
    | zero => simp at hk
    | succ k =>
      have hk : (startE m ds)[k]? = some (.sh d) := by simpa using hk
      unfold startE at hk
      rw [List.getElem?_append] at hk
      split at hk
      · rename_i hlt
        simp only [List.getElem?_map, Option.map_eq_some_iff] at hk
        obtain ⟨d', hd, e⟩ := hk
        cases e
        obtain ⟨v, hv, pv⟩ := r.get hd
        refine ⟨v, ?_, pv.stab st⟩
        rw [start_get, if_pos (by have : k < ds.length := by simpa using hlt
                                  simp only [List.length_cons, hl]; omega)]
        simp [hv]
      · rw [List.getElem?_replicate] at hk
        split at hk <;> cases hk
  · cases (only k _ hk rfl).2
  · obtain ⟨rfl, e⟩ := only k _ hk rfl
    cases e
    refine ⟨p, ?_, rfl, w.stab st rfl⟩
    rw [start_get, if_pos (by simp)]
    rfl
  · exact ne ((only i e hi hc).1.trans (only j f hj he).1.symm)

section
variable {P : Program} {w : World} {K : FragK} {mg : Str → Option Value} {base : Heap} {k : Nat} {f : Addr} {fd : FuncData} {x qual : Str} {params : Arguments} {body : List Stmt} {scope : Scope} {N ps : List Str} {g : MS}
/-- the context of a def's body -/
abbrev BodyCx (P : Program) (w : World) (K : FragK) (mg : Str → Option Value) (base : Heap) (N : List Str) (qual : Str) (scope : Scope) (f : Addr) (cdv : Value) (A : Around) (outer : List Env) (s : Shared) (H : Hp) : Cx := (cxOf CX0 P w K mg base N qual scope f cdv A outer s H E0).nox
/-- the body means g -/
def BodyOk (P : Program) (w : World) (K : FragK) (mg : Str → Option Value) (base : Heap) (N : List Str) (qual : Str) (scope : Scope) (body : List Stmt) (k : Nat) (g : MS) : Prop :=
  ∀ (f : Addr) (cdv : Value) (A : Around) (outer : List Env) (s : Shared) (H : Hp), Room k (A.deeper (envOfC qual scope s.heap.objs.size f cdv)) → A.guards = some [] → SSs (BodyCx P w K mg base N qual scope f cdv A outer s H) body g
theorem ext_same {H H' : Hp} {O' : AS} (x : Ext (fun _ => False) (fun _ => False) H O' H') : Same H H' := fun a o h => x.keep a o h (fun z => z) fun z => z
theorem fn_A {sem : List D → Option D} {n m : Nat} (F : FunD K x qual params body scope [] [] f fd) (S : FnScope N ps scope) (hn : ps.length = n) (hm : m = N.length - n) (hs : ∀ ds d, sem ds = some d → ds.length = n ∧ runA (g (startE m ds)) = some d)
    (B : BodyOk P w K mg base N qual scope body k g) : FnG P w K mg base (k + 1) f fd ps (spA K sem) := by
  refine fnG_of F S (fun vs H Q h => ?_) fun cdv A outer s H vs Q hr hg h => ⟨_, B f cdv A outer s H hr hg, ?_⟩
  · obtain ⟨M, ds, d, _, r, e, _⟩ := h
    rw [r.length, (hs ds d e).1, hn]
  · obtain ⟨M, ds, d, md, r, e, q⟩ := h
    obtain ⟨hl, e⟩ := hs ds d e
    obtain ⟨o, e1, e2⟩ := Option.bind_eq_some_iff.mp e
    refine ⟨M, _, _, startE m ds, o, rel_start md r (by rw [r.length, hl]; exact hm), e1, ?_⟩
    cases o with
    | rt d' ρ' =>
      cases e2
      exact fun v σ' H' O' r' x' p' => q v H' (ext_same x') (p'.stab fun a o h1 h2 => ⟨h1, fun z => h2 (.inl z)⟩)
    | nx ρ' =>
      cases e2
      exact fun σ' H' O' r' x' => q _ H' (ext_same x') .non
    | rf d' ρ' => cases e2
    | bk ρ' => cases e2
    | ct ρ' => cases e2
theorem fn_F {sem : List D → Option D} {n m : Nat} (F : FunD K x qual params body scope [] [] f fd) (S : FnScope N ps scope) (hn : ps.length = n) (hm : m = N.length - n) (hs : ∀ ds d, sem ds = some d → ds.length = n ∧ runF (g (startE m ds)) = some d)
    (B : BodyOk P w K mg base N qual scope body k g) : FnG P w K mg base (k + 1) f fd ps (spF K sem) := by
  refine fnG_of F S (fun vs H Q h => ?_) fun cdv A outer s H vs Q hr hg h => ⟨_, B f cdv A outer s H hr hg, ?_⟩
  · obtain ⟨M, ds, d, _, r, e, _⟩ := h
    rw [r.length, (hs ds d e).1, hn]
  · obtain ⟨M, ds, d, md, r, e, q⟩ := h
    obtain ⟨hl, e⟩ := hs ds d e
    obtain ⟨o, e1, e2⟩ := Option.bind_eq_some_iff.mp e
    refine ⟨M, _, _, startE m ds, o, rel_start md r (by rw [r.length, hl]; exact hm), e1, ?_⟩
    cases o with
    | rf d' ρ' =>
      cases e2
      refine fun p σ' H' O' r' x' hp w' => q p H' (ext_same x') ((x'.old p hp).resolve_left (fun z => z)) (w'.stab (fun a o h1 h2 => ⟨h1, ?_⟩) rfl)
      rintro (z | z)
      · exact h2 (.inl z)
      · subst z; exact h2 (.inr hp)
    | nx ρ' => cases e2
    | rt d' ρ' => cases e2
    | bk ρ' => cases e2
    | ct ρ' => cases e2
theorem fn_I {sem : D → List D → Option (D × D)} {n m : Nat} (F : FunD K x qual params body scope [] [] f fd) (S : FnScope N ps scope) (hn : ps.length = n + 1) (hm : m = N.length - (n + 1)) (hs : ∀ c ds d, sem c ds = some d → ds.length = n ∧ runI (g (.io c :: startE m ds)) = some d)
    (B : BodyOk P w K mg base N qual scope body k g) : FnG P w K mg base (k + 1) f fd ps (spI K sem) := by
  refine fnG_of F S (fun vs H Q h => ?_) fun cdv A outer s H vs Q hr hg h => ⟨_, B f cdv A outer s H hr hg, ?_⟩
  · obtain ⟨M, p, xs, c, ds, d, c', rfl, _, _, _, r, e, _⟩ := h
    rw [List.length_cons, r.length, (hs c ds _ e).1, hn]
  · obtain ⟨M, p, xs, c, ds, d, c', rfl, md, mp, w, r, e, q⟩ := h
    obtain ⟨hl, e⟩ := hs c ds _ e
    obtain ⟨o, e1, e2⟩ := Option.bind_eq_some_iff.mp e
    have fin : ∀ {ρ' : Env'} {σ' : L2.St} {H' : Hp} {O' : AS} {v : V} {cc : D}, ρ'[0]? = some (.io cc) → Rel K M (fun a => a = p) O' ρ' σ' H' → Ext (fun a => a = p) (fun _ => False) H O' H' → But p H H' ∧ Ow K M H' p cc := fun {ρ' σ' H' O' v cc} h0 r' x' => by
      obtain ⟨b, hb, wb, w'⟩ := r'.io 0 cc h0
      have wb : b = p := wb
      subst wb
      exact ⟨⟨fun a o h1 h2 => x'.keep a o h1 h2 fun z => z, x'.dom⟩, w'.stab (fun a o h1 h2 => ⟨h1, fun z => h2 (.inl z)⟩) rfl⟩
    refine ⟨M, _, _, .io c :: startE m ds, o, rel_startI md mp w r (by rw [r.length, hl]; exact hm), e1, ?_⟩
    cases o with
    | rt d' ρ' =>
      refine fun v σ' H' O' r' x' p' => ?_
      obtain ⟨cc, h0, e3⟩ := Option.map_eq_some_iff.mp (show (ioAt ρ').map (fun c => (d', c)) = some (d, c') from e2)
      cases e3
      obtain ⟨b1, b2⟩ := fin (v := v) (ioAt_of h0) r' x'
      exact q v H' b1 b2 (p'.stab fun a o h1 h2 => ⟨h1, fun z => h2 (.inl z)⟩)
    | nx ρ' =>
      refine fun σ' H' O' r' x' => ?_
      obtain ⟨cc, h0, e3⟩ := Option.map_eq_some_iff.mp (show (ioAt ρ').map (fun c => (PyData.none, c)) = some (d, c') from e2)
      cases e3
      obtain ⟨b1, b2⟩ := fin (v := .non) (ioAt_of h0) r' x'
      exact q _ H' b1 b2 .non
    | rf d' ρ' => cases e2
    | bk ρ' => cases e2
    | ct ρ' => cases e2
end
end MP

set_option maxRecDepth 100000
namespace MP
open PySem PySem.Spec PyProof.Rows L2

/-! ## callees -/
/-- what a body may rest on -/
structure Sit (X : Cx) (k : Nat) : Prop where
  room : Room k X.A
  gu : X.A.guards = some []
theorem Sit.units {X : Cx} {k : Nat} (s : Sit X k) : X.A.units + 64 < cLine := s.room.units
theorem Sit.units1 {X : Cx} {k : Nat} (s : Sit X k) : X.A.units + 65 < cLine := by have := s.room.un; omega
theorem Sit.units0 {X : Cx} {k : Nat} (s : Sit X k) : X.A.units + 1 < cLine := by have := s.room.un; omega

def pick {α : Type} (idx : List Nat) (l : List α) : List α := idx.filterMap (l[·]?)
/-- a call with n values by place, the others by the names ks -/
def KB (fd : FuncData) (ps : List Str) (n : Nat) (ks : List Str) (idx : List Nat) : Prop :=
  ∀ us ws : List Value, us.length = n → ws.length = ks.length → bindArgs fd ⟨us, ks.zip ws⟩ = pure (ps.zip (pick idx (us ++ ws)))
def Cl (P : Program) (w : World) (K : FragK) (mg : Str → Option Value) (base : Heap) (k : Nat) (x : Str) (ps : List Str) (sp : SpG) : Prop :=
  ∃ f fd, mg x = some (.ref f) ∧ PySem.W.keepIn K (.ref f) = true ∧ Binds K fd ps [] ∧ FnG P w K mg base k f fd ps sp
def ClK (P : Program) (w : World) (K : FragK) (mg : Str → Option Value) (base : Heap) (k : Nat) (x : Str) (ps : List Str) (n : Nat) (ks : List Str) (idx : List Nat) (sp : SpG) : Prop :=
  ∃ f fd, mg x = some (.ref f) ∧ PySem.W.keepIn K (.ref f) = true ∧ KB fd ps n ks idx ∧ FnG P w K mg base k f fd ps sp
section
variable {K : FragK} {x qual : Str} {params : Arguments} {body : List Stmt} {scope : Scope} {f : Addr} {fd : FuncData} {ps ks : List Str} {n : Nat} {idx : List Nat}
theorem kb_of (F : FunD K x qual params body scope [] [] f fd)
    (h : ∀ (kV doc pm : Value) (an : Option Addr) (cdv ct : Value) (us ws : List Value), us.length = n → ws.length = ks.length → bindArgs (PySem.W.fnOf x qual params body scope .none kV doc pm an cdv ct) ⟨us, ks.zip ws⟩ = pure (ps.zip (pick idx (us ++ ws)))) : KB fd ps n ks idx := by
  obtain ⟨oc, od, dV, kV, doc, pm, an, cdv, ct, osl, rfl, lk, hcd, hD, hK⟩ := F.ex
  rcases hD with ⟨_, rfl⟩ | ⟨e, _⟩
  · exact h kV doc pm an cdv ct
  · exact absurd rfl e
end
theorem vals_get {vs : List V} {us : List Value} (r : Vals vs us) : ∀ (i : Nat), (vs[i]? = none ∧ us[i]? = none) ∨ ∃ v u, vs[i]? = some v ∧ us[i]? = some u ∧ RelV v u := by
  induction r with
  | nil => intro i; exact .inl ⟨rfl, rfl⟩
  | cons h _ ih =>
    intro i
    cases i with
    | zero => exact .inr ⟨_, _, rfl, rfl, h⟩
    | succ i => simpa using ih i
theorem vals_pick {vs : List V} {us : List Value} (r : Vals vs us) : ∀ idx : List Nat, Vals (pick idx vs) (pick idx us)
  | [] => .nil
  | i :: idx => by
    unfold pick
    rcases vals_get r i with ⟨a, b⟩ | ⟨v, u, a, b, h⟩
    · simp only [List.filterMap_cons, a, b]
      exact vals_pick r idx
    · simp only [List.filterMap_cons, a, b]
      exact .cons h (vals_pick r idx)
theorem rps_pick {K : FragK} {M : AS} {H : Hp} {vs : List V} {ds : List D} (r : Rps K M H vs ds) : ∀ idx : List Nat, Rps K M H (pick idx vs) (pick idx ds)
  | [] => .nil
  | i :: idx => by
    unfold pick
    cases e : ds[i]? with
    | none =>
      have e' : vs[i]? = none := by
        rw [List.getElem?_eq_none_iff] at e ⊢
        rw [r.length]; exact e
      simp only [List.filterMap_cons, e, e']
      exact rps_pick r idx
    | some d =>
      obtain ⟨v, e', h⟩ := r.get e
      simp only [List.filterMap_cons, e, e']
      exact .cons h (rps_pick r idx)

section
variable {X : Cx} {k j : Nat} {ps ks : List Str} {sp : SpG} {x : Str} {p pos kpos : Pos} {e : Expr} {es : List Expr} {kws : List Keyword} {t tk : TA} {n : Nat} {idx : List Nat}
theorem pe_callC (c : Cl X.prog X.w X.K X.mg X.base j x ps sp) (st : Sit X k) (hj : j ≤ k) (hg : Gl X x) (ha : PA X (e :: es) t) (hdb : (x == ("__debug__" : Str)) = false := by decide)
    (he : starEach (e :: es) X.env = (false, eval e X.env) :: starEach es X.env := by rfl) (hpl : (backTo pos (starEach es X.env)).any (·.1) = false := by rfl) :
    PE X (.Call (.Name x p) (e :: es) [] pos) (fun σ H Q => t σ H fun vs H1 => sp vs H1 Q) := by
  obtain ⟨f, fd, hm, hk, hb, F⟩ := c
  exact pe_callG (F.mono hj) st.room st.gu hg hm hk hb ha hdb he hpl
theorem pe_callC0 (c : Cl X.prog X.w X.K X.mg X.base j x ps sp) (st : Sit X k) (hj : j ≤ k) (hg : Gl X x) (hdb : (x == ("__debug__" : Str)) = false := by decide) : PE X (.Call (.Name x p) [] [] pos) (fun σ H Q => sp [] H Q) := by
  obtain ⟨f, fd, hm, hk, hb, F⟩ := c
  exact pe_callG0 (F.mono hj) st.room st.gu hg hm hk hb hdb
theorem run_fnGK {f : Addr} {fd : FuncData} {pins : List (Addr × Obj)} {σ : L2.St} {H : Hp} {s : Shared} {Q : VK} {us ws : List Value} {vs zs : List V} (F : FnG X.prog X.w X.K X.mg X.base k f fd ps sp) (st : Sit X k) (hb : KB fd ps n ks idx) (hn : us.length = n) (hw : ws.length = ks.length)
    (I : Inv X pins σ H s) (r : Vals vs us) (rz : Vals zs ws) (h : sp (pick idx (vs ++ zs)) H Q) : wpAny (model X.prog X.w) X.A (call (.ref f) us (ks.zip ws)) (EP X pins σ Q) X.xe s := by
  have r2 : Vals (pick idx (vs ++ zs)) (pick idx (us ++ ws)) := vals_pick (r.append rz) idx
  refine wpAny_call (codeAny_mono (run_fnG (args := ⟨us, ks.zip ws⟩) F st.room st.gu (.of_eq (hb us ws hn hw)) I r2 h) fun r s' hq => ?_)
  cases r with
  | error e => exact False.elim hq
  | ok fl =>
    cases fl with
    | ret u => exact hq
    | next => exact False.elim hq
    | brk => exact False.elim hq
    | cont => exact False.elim hq
/-- f(e, .., k = v, ..) -/
theorem pe_callCK (c : ClK X.prog X.w X.K X.mg X.base j x ps n ks idx sp) (st : Sit X k) (hj : j ≤ k) (hg : Gl X x) (ha : PA X (e :: es) t) (hkw : PK X kws tk)
    (hn : ∀ σ H (Q : List V → Hp → Prop), t σ H Q → t σ H fun vs H1 => vs.length = n ∧ Q vs H1) (hw : ∀ σ H (Q : List V → Hp → Prop), tk σ H Q → tk σ H fun vs H1 => vs.length = ks.length ∧ Q vs H1)
    (hall : (backToKw pos (keywordEach kws X.env)).all (·.1.isSome) = true := by rfl) (hks : (backToKw pos (keywordEach kws X.env)).filterMap (·.1) = ks := by rfl)
    (hdb : (x == ("__debug__" : Str)) = false := by decide) (he : starEach (e :: es) X.env = (false, eval e X.env) :: starEach es X.env := by rfl)
    (hpl : ((backTo pos (starEach (e :: es) X.env)).any (·.1) || (backToKw pos (keywordEach kws X.env)).any (·.1.isNone)) = false := by rfl) :
    PE X (.Call (.Name x p) (e :: es) kws pos) (fun σ H Q => t σ H fun vs H1 => tk σ H1 fun zs H2 => sp (pick idx (vs ++ zs)) H2 Q) := by
  obtain ⟨f, fd, hm, hk, hb, F⟩ := c
  refine ⟨fun pins s σ H Q I h => ?_⟩
  refine wpAny_Call_Name_kw (ld_glob I hg hm ?_ hdb)
  refine PySem.W.callWith_KW (h₀ := X.base) I.ok.mod.kin hk hall (thn (ha.run pos pins s σ H _ I (hn _ _ _ h)) fun us s1 ⟨vs, H1, I1, r, ln, q⟩ => ?_) hpl he
  refine thn (hkw.run pos pins s1 σ H1 _ I1 (hw _ _ _ q)) fun ws s2 ⟨zs, H2, I2, rz, lz, q2⟩ => ⟨I2.kIn, ?_⟩
  rw [hks]
  exact run_fnGK (F.mono hj) st hb (by show us.length = n; rw [← r.length]; exact ln) (by rw [← rz.length]; exact lz) I2 r rz q2
/-- f(k = v, ..) -/
theorem pe_callCK0 (c : ClK X.prog X.w X.K X.mg X.base j x ps 0 ks idx sp) (st : Sit X k) (hj : j ≤ k) (hg : Gl X x) (hkw : PK X kws tk)
    (hw : ∀ σ H (Q : List V → Hp → Prop), tk σ H Q → tk σ H fun vs H1 => vs.length = ks.length ∧ Q vs H1)
    (hall : (backToKw pos (keywordEach kws X.env)).all (·.1.isSome) = true := by rfl) (hks : (backToKw pos (keywordEach kws X.env)).filterMap (·.1) = ks := by rfl)
    (hdb : (x == ("__debug__" : Str)) = false := by decide)
    (hpl : ((backTo pos (starEach [] X.env)).any (·.1) || (backToKw pos (keywordEach kws X.env)).any (·.1.isNone)) = false := by rfl) :
    PE X (.Call (.Name x p) [] kws pos) (fun σ H Q => tk σ H fun zs H2 => sp (pick idx ([] ++ zs)) H2 Q) := by
  obtain ⟨f, fd, hm, hk, hb, F⟩ := c
  refine ⟨fun pins s σ H Q I h => ?_⟩
  refine wpAny_Call_Name_kw (ld_glob I hg hm ?_ hdb)
  refine PySem.W.callWith_KW0 (h₀ := X.base) I.ok.mod.kin hk hall (thn (hkw.run pos pins s σ H _ I (hw _ _ _ h)) fun ws s2 ⟨zs, H2, I2, rz, lz, q2⟩ => ⟨I2.kIn, ?_⟩) hpl
  rw [hks]
  exact run_fnGK (us := []) (F.mono hj) st hb rfl (by rw [← rz.length]; exact lz) I2 .nil rz q2
end

/-! ## what a call means -/
def callA (sem : List D → Option D) (fs : List ME) : ME := fun ρ => (evV fs ρ).bind fun x => (sem x.1).bind fun d => some (d, x.2)
def callK (sem : List D → Option D) (idx : List Nat) (fs : List ME) : ME := callA (fun ds => sem (pick idx ds)) fs
/-- the first argument's object is changed -/
def callI (sem : D → List D → Option (D × D)) (k : Nat) (fs : List ME) : ME := fun ρ => (rd ρ k).bind fun _ => (evV fs ρ).bind fun x => match x.2[k]? with
  | some (.own c) => (sem c x.1).bind fun y => some (y.1, x.2.set k (.own y.2))
  | some (.io c) => (sem c x.1).bind fun y => some (y.1, x.2.set k (.io y.2))
  | _ => none
theorem Rp.sameM {K : FragK} {M M' : AS} {H : Hp} {v : V} {d : D} (h : Rp K M H v d) (e : ∀ a, M' a → M a) : Rp K M' H v d := h.stab fun a o h1 h2 => ⟨h1, fun z => h2 (e a z)⟩
section
variable {K : FragK} {M0 W0 O : AS} {ρ : Env'} {σ : L2.St} {H : Hp}
/-- p's object is changed -/
theorem Rel.chg (r : Rel K M0 W0 O ρ σ H) {k : Nat} {c c' : Cell} {p : Addr} {d' : D} {H' : Hp} (b : But p H H') (hk : ρ[k]? = some c) (hs : σ[k]? = some (some (.ref p)))
    (hc : (∃ d, c = .own d ∧ c' = .own d') ∨ ∃ d, c = .io d ∧ c' = .io d') (w : Ow K (mm M0 O) H' p d') :
    Rel K M0 W0 O (ρ.set k c') σ H' ∧ Ext W0 O H O H' := by
  have hlt : k < ρ.length := (List.getElem?_eq_some_iff.mp hk).1
  have hm : c.mut?.isSome = true := by rcases hc with ⟨d, rfl, _⟩ | ⟨d, rfl, _⟩ <;> rfl
  have hin : mm M0 O p ∧ (W0 p ∨ O p) := by
    rcases hc with ⟨d, rfl, _⟩ | ⟨d, rfl, _⟩
    · obtain ⟨b, e1, ob, _⟩ := r.own k d hk
      rw [hs] at e1; cases e1
      exact ⟨.inr ob, .inr ob⟩
    · obtain ⟨b, e1, ob, _⟩ := r.io k d hk
      rw [hs] at e1; cases e1
      exact ⟨.inl (r.wsub _ ob), .inl ob⟩
  have st : Stab (mm M0 O) (mm M0 O) H H' := fun a ob ha hma => ⟨b.keep a ob ha fun z => hma (z ▸ hin.1), hma⟩
  have same : ∀ {q : Addr} {e : D}, q ≠ p → Ow K (mm M0 O) H q e → Ow K (mm M0 O) H' q e := fun {q e} ne w => w.stab st (by
    cases w with
    | lst e' _ => rw [e']; exact b.keep _ _ e' ne
    | dct e' _ => rw [e']; exact b.keep _ _ e' ne)
  refine ⟨⟨r.wsub, fun a ha => let ⟨o, e⟩ := r.mdom a ha; b.dom a o e, r.disj, by rw [List.length_set]; exact r.len, fun j e hj => ?_, fun j e hj => ?_, fun j e hj => ?_, fun i j e f q ne hi hj he hf s1 s2 => ?_⟩,
    ⟨fun a ob ha hw ho => b.keep a ob ha fun z => by subst z; rcases hin.2 with z | z; exact hw z; exact ho z, fun a ha => .inl ha, b.dom⟩⟩
  · by_cases ej : j = k
    · subst ej
      rw [List.getElem?_set_self hlt] at hj
      rcases hc with ⟨d, _, rfl⟩ | ⟨d, _, rfl⟩ <;> cases hj
    · rw [List.getElem?_set_ne (Ne.symm ej)] at hj
      obtain ⟨v, ev, pv⟩ := r.sh j e hj
      exact ⟨v, ev, pv.stab st⟩
  · by_cases ej : j = k
    · subst ej
      rw [List.getElem?_set_self hlt] at hj
      rcases hc with ⟨d, rfl, rfl⟩ | ⟨d, _, rfl⟩
      · cases hj
        obtain ⟨b, e1, ob, _⟩ := r.own j d hk
        rw [hs] at e1; cases e1
        exact ⟨_, hs, ob, w⟩
      · cases hj
    · rw [List.getElem?_set_ne (Ne.symm ej)] at hj
      obtain ⟨q, ev, ob, wv⟩ := r.own j e hj
      have nb : q ≠ p := fun z => by
        subst z
        exact r.uniq j k _ _ q ej hj hk rfl hm ev hs
      exact ⟨q, ev, ob, same nb wv⟩
  · by_cases ej : j = k
    · subst ej
      rw [List.getElem?_set_self hlt] at hj
      rcases hc with ⟨d, _, rfl⟩ | ⟨d, rfl, rfl⟩
      · cases hj
      · cases hj
        obtain ⟨b, e1, ob, _⟩ := r.io j d hk
        rw [hs] at e1; cases e1
        exact ⟨_, hs, ob, w⟩
    · rw [List.getElem?_set_ne (Ne.symm ej)] at hj
      obtain ⟨q, ev, ob, wv⟩ := r.io j e hj
      have nb : q ≠ p := fun z => by
        subst z
        exact r.uniq j k _ _ q ej hj hk rfl hm ev hs
      exact ⟨q, ev, ob, same nb wv⟩
  · have g : ∀ (j : Nat) (e : Cell), (ρ.set k c')[j]? = some e → e.mut?.isSome = true → ∃ e', ρ[j]? = some e' ∧ e'.mut?.isSome = true := fun j e hj he => by
      by_cases ej : j = k
      · subst ej; exact ⟨c, hk, hm⟩
      · rw [List.getElem?_set_ne (Ne.symm ej)] at hj
        exact ⟨e, hj, he⟩
    obtain ⟨e', h1, h2⟩ := g i e hi he
    obtain ⟨f', h3, h4⟩ := g j f hj hf
    exact r.uniq i j e' f' q ne h1 h3 h2 h4 s1 s2
/-- a new object of a callee -/
theorem Rel.allocO {M0 W0 O1 : AS} {ρ1 : Env'} {σ : L2.St} {H1 H' : Hp} {p : Addr} {d : D} (r1 : Rel K M0 W0 O1 ρ1 σ H1) (s : Same H1 H') (n : H1 p = none) (w : Ow K (fun a => mm M0 O1 a ∨ a = p) H' p d) :
    Rel K M0 W0 (fun a => O1 a ∨ a = p) ρ1 σ H' ∧ Ext W0 O1 H1 (fun a => O1 a ∨ a = p) H' ∧ (∀ (k : Nat) (c : Cell), ρ1[k]? = some c → c.mut?.isSome = true → σ[k]? ≠ some (some (.ref p))) ∧
      Ow K (mm M0 fun a => O1 a ∨ a = p) H' p d := by
  have w' : Ow K (mm M0 fun a => O1 a ∨ a = p) H' p d := w.stab (fun a o h1 h2 => ⟨h1, by
    rintro (z | z | z)
    · exact h2 (.inl (.inl z))
    · exact h2 (.inl (.inr z))
    · exact h2 (.inr z)⟩) rfl
  obtain ⟨o, ho⟩ : ∃ o, H' p = some o := by
    cases w with
    | lst e _ => exact ⟨_, e⟩
    | dct e _ => exact ⟨_, e⟩
  have np : ¬ (mm M0 O1) p := r1.mDom.new n
  have r2 := r1.same s
  have st2 : Stab (mm M0 O1) (mm M0 fun a => O1 a ∨ a = p) H1 H' := fun a o ha hm => ⟨s a o ha, by
    rintro (z | z | z)
    · exact hm (.inl z)
    · exact hm (.inr z)
    · subst z; rw [n] at ha; cases ha⟩
  have ow : ∀ {q : Addr} {e : D}, Ow K (mm M0 O1) H1 q e → Ow K (mm M0 fun a => O1 a ∨ a = p) H' q e := fun {q e} w => w.stab st2 (by
    cases w with
    | lst e' _ => rw [e']; exact s _ _ e'
    | dct e' _ => rw [e']; exact s _ _ e')
  refine ⟨⟨r1.wsub, fun a ha => ?_, fun a ha => ?_, r1.len, fun k d hk => ?_, fun k d hk => ?_, fun k d hk => ?_, r1.uniq⟩, ⟨fun a o ha _ _ => s a o ha, fun a ha => ?_, fun a o ha => ⟨o, s a o ha⟩⟩, fun k c hk hc z => ?_, w'⟩
  · rcases ha with z | z | z
    · exact r2.mdom a (.inl z)
    · exact r2.mdom a (.inr z)
    · subst z; exact ⟨o, ho⟩
  · rcases ha with z | z
    · exact r1.disj a z
    · subst z; exact fun z => np (.inl z)
  · obtain ⟨v, ev, pv⟩ := r1.sh k d hk
    exact ⟨v, ev, pv.stab st2⟩
  · obtain ⟨b, ev, ob, wv⟩ := r1.own k d hk
    exact ⟨b, ev, .inl ob, ow wv⟩
  · obtain ⟨b, ev, ob, wv⟩ := r1.io k d hk
    exact ⟨b, ev, ob, ow wv⟩
  · rcases ha with z | z
    · exact .inl z
    · subst z; exact .inr n
  · cases c with
    | no => cases hc
    | sh d => cases hc
    | own d =>
      obtain ⟨b, e1, ob, w⟩ := r1.own k d hk
      rw [z] at e1; cases e1
      exact np (.inr ob)
    | io d =>
      obtain ⟨b, e1, ob, w⟩ := r1.io k d hk
      rw [z] at e1; cases e1
      exact np (.inl (r1.wsub _ ob))
theorem callA_ok {sem : List D → Option D} {fs : List ME} : ∀ (σ : L2.St) (H : Hp) (Q : VK), tE K (callA sem fs) σ H Q → tVs K fs σ H fun vs H1 => spA K sem vs H1 Q := by
  rintro σ H Q ⟨M0, W0, O, ρ, d, ρ', r, e, q⟩
  simp only [callA, Option.bind_eq_some_iff] at e
  obtain ⟨⟨ds, ρ1⟩, e1, d1, e2, e3⟩ := e
  cases e3
  exact vals_ok r e1 fun xs H1 O1 r1 x1 p1 => ⟨_, ds, d, r1.mDom, p1, e2, fun v H' s p => q v H' O1 (r1.same s) (x1.trans (.same s)) p⟩
theorem callF_ok {sem : List D → Option D} {fs : List ME} : ∀ (σ : L2.St) (H : Hp) (Q : VK), tF K (callA sem fs) σ H Q → tVs K fs σ H fun vs H1 => spF K sem vs H1 Q := by
  rintro σ H Q ⟨M0, W0, O, ρ, d, ρ', r, e, q⟩
  simp only [callA, Option.bind_eq_some_iff] at e
  obtain ⟨⟨ds, ρ1⟩, e1, d1, e2, e3⟩ := e
  cases e3
  refine vals_ok r e1 fun xs H1 O1 r1 x1 p1 => ⟨_, ds, d, r1.mDom, p1, e2, fun p H' s n w => ?_⟩
  obtain ⟨a1, a2, a3, a4⟩ := r1.allocO s n w
  exact q p H' _ a1 (x1.trans a2) (.inr rfl) a3 a4
theorem callK_ok {sem : List D → Option D} {idx : List Nat} {fs : List ME} : ∀ (σ : L2.St) (H : Hp) (Q : VK), tE K (callK sem idx fs) σ H Q → tVs K fs σ H fun vs H1 => spA K sem (pick idx vs) H1 Q := by
  rintro σ H Q ⟨M0, W0, O, ρ, d, ρ', r, e, q⟩
  simp only [callK, callA, Option.bind_eq_some_iff] at e
  obtain ⟨⟨ds, ρ1⟩, e1, d1, e2, e3⟩ := e
  cases e3
  exact vals_ok r e1 fun xs H1 O1 r1 x1 p1 => ⟨_, pick idx ds, d, r1.mDom, rps_pick p1 idx, e2, fun v H' s p => q v H' O1 (r1.same s) (x1.trans (.same s)) p⟩
theorem callKF_ok {sem : List D → Option D} {idx : List Nat} {fs : List ME} : ∀ (σ : L2.St) (H : Hp) (Q : VK), tF K (callK sem idx fs) σ H Q → tVs K fs σ H fun vs H1 => spF K sem (pick idx vs) H1 Q := by
  rintro σ H Q ⟨M0, W0, O, ρ, d, ρ', r, e, q⟩
  simp only [callK, callA, Option.bind_eq_some_iff] at e
  obtain ⟨⟨ds, ρ1⟩, e1, d1, e2, e3⟩ := e
  cases e3
  refine vals_ok r e1 fun xs H1 O1 r1 x1 p1 => ⟨_, pick idx ds, d, r1.mDom, rps_pick p1 idx, e2, fun p H' s n w => ?_⟩
  obtain ⟨a1, a2, a3, a4⟩ := r1.allocO s n w
  exact q p H' _ a1 (x1.trans a2) (.inr rfl) a3 a4
theorem callI_ok {sem : D → List D → Option (D × D)} {k : Nat} {fs : List ME} : ∀ (σ : L2.St) (H : Hp) (Q : VK), tE K (callI sem k fs) σ H Q → tCons (tVar k) (tVs K fs) σ H fun vs H1 => spI K sem vs H1 Q := by
  rintro σ H Q ⟨M0, W0, O, ρ, d, ρ', r, e, q⟩
  simp only [callI, Option.bind_eq_some_iff] at e
  obtain ⟨_, e0, ⟨ds, ρ1⟩, e1, e2⟩ := e
  obtain ⟨v, hv, _⟩ := r.rd e0
  refine ⟨v, hv, ?_⟩
  have key : tVs K fs σ H fun xs H1 => spI K sem (v :: xs) H1 Q := by
    refine vals_ok r e1 fun xs H1 O1 r1 x1 p1 => ?_
    split at e2
    · rename_i c hk
      simp only [Option.bind_eq_some_iff] at e2
      obtain ⟨⟨d', c'⟩, e3, e4⟩ := e2
      cases e4
      obtain ⟨p, e5, op, w⟩ := r1.own k _ hk
      rw [hv] at e5; cases e5
      refine ⟨_, p, xs, c, ds, _, c', rfl, r1.mDom, .inr op, w, p1, e3, fun v H' b w' p' => ?_⟩
      obtain ⟨a1, a2⟩ := r1.chg b hk hv (.inl ⟨_, rfl, rfl⟩) w'
      exact q v H' O1 a1 (x1.trans a2) p'
    · rename_i c hk
      simp only [Option.bind_eq_some_iff] at e2
      obtain ⟨⟨d', c'⟩, e3, e4⟩ := e2
      cases e4
      obtain ⟨p, e5, op, w⟩ := r1.io k _ hk
      rw [hv] at e5; cases e5
      refine ⟨_, p, xs, c, ds, _, c', rfl, r1.mDom, .inl (r1.wsub _ op), w, p1, e3, fun v H' b w' p' => ?_⟩
      obtain ⟨a1, a2⟩ := r1.chg b hk hv (.inr ⟨_, rfl, rfl⟩) w'
      exact q v H' O1 a1 (x1.trans a2) p'
    · cases e2
  exact key
theorem tE_mono {f : ME} {Q Q' : VK} (h : tE K f σ H Q) (q : ∀ v H', Q v H' → Q' v H') : tE K f σ H Q' := by
  obtain ⟨M0, W0, O, ρ, d, ρ', r, e, k⟩ := h
  exact ⟨M0, W0, O, ρ, d, ρ', r, e, fun v H' O' a b c => q _ _ (k v H' O' a b c)⟩
theorem tVs_mono : ∀ {fs : List ME} {H : Hp} {Q Q' : List V → Hp → Prop}, tVs K fs σ H Q → (∀ vs H', Q vs H' → Q' vs H') → tVs K fs σ H Q'
  | [], _, _, _, h, q => q _ _ h
  | _ :: fs, _, _, _, h, q => tE_mono h fun _ _ h' => tVs_mono (fs := fs) h' fun _ _ => q _ _
theorem tVs_len : ∀ {fs : List ME} {H : Hp} {Q : List V → Hp → Prop}, tVs K fs σ H Q → tVs K fs σ H fun vs H1 => vs.length = fs.length ∧ Q vs H1
  | [], _, _, h => ⟨rfl, h⟩
  | _ :: fs, _, _, h => tE_mono h fun _ _ h' => tVs_mono (tVs_len (fs := fs) h') fun _ _ z => ⟨congrArg (· + 1) z.1, z.2⟩
theorem tVs_app : ∀ {fs gs : List ME} {H : Hp} {Q : List V → Hp → Prop}, tVs K (fs ++ gs) σ H Q → tVs K fs σ H fun vs H1 => tVs K gs σ H1 fun ws H2 => Q (vs ++ ws) H2
  | [], _, _, _, h => h
  | _ :: fs, _, _, _, h => tE_mono h fun _ _ h' => tVs_app (fs := fs) h'
end

/-! ## the rules -/
abbrev SVK (X : Cx) (kws : List Keyword) (fs : List ME) : Prop := PK X kws (tVs X.K fs)
section
variable {X : Cx} {k j n : Nat} {ps ks : List Str} {x y : Str} {p p' pos kpos : Pos} {e : Expr} {es : List Expr} {kws : List Keyword} {nm : Option Str} {f : ME} {fs gs : List ME} {sem : List D → Option D} {semI : D → List D → Option (D × D)} {idx : List Nat} {i : Nat}
theorem svk_nil : SVK X [] [] := pk_nil
theorem svk_cons (ha : SE X e f) (hr : SVK X kws fs) : SVK X (⟨nm, e, kpos⟩ :: kws) (f :: fs) := pk_cons ha hr
theorem se_ca (c : Cl X.prog X.w X.K X.mg X.base j x ps (spA X.K sem)) (st : Sit X k) (ha : SVs X (e :: es) fs) (hj : j ≤ k := by decide) (hg : Gl X x := by rfl) (hdb : (x == ("__debug__" : Str)) = false := by decide)
    (he : starEach (e :: es) X.env = (false, eval e X.env) :: starEach es X.env := by rfl) (hpl : (backTo pos (starEach es X.env)).any (·.1) = false := by rfl) : SE X (.Call (.Name x p) (e :: es) [] pos) (callA sem fs) :=
  pe_wk (pe_callC c st hj hg ha hdb he hpl) fun σ H Q q => callA_ok σ H Q q
theorem se_ca0 (c : Cl X.prog X.w X.K X.mg X.base j x ps (spA X.K sem)) (st : Sit X k) (hj : j ≤ k := by decide) (hg : Gl X x := by rfl) (hdb : (x == ("__debug__" : Str)) = false := by decide) : SE X (.Call (.Name x p) [] [] pos) (callA sem []) :=
  pe_wk (pe_callC0 c st hj hg hdb) fun σ H Q q => callA_ok σ H Q q
theorem sf_ca (c : Cl X.prog X.w X.K X.mg X.base j x ps (spF X.K sem)) (st : Sit X k) (ha : SVs X (e :: es) fs) (hj : j ≤ k := by decide) (hg : Gl X x := by rfl) (hdb : (x == ("__debug__" : Str)) = false := by decide)
    (he : starEach (e :: es) X.env = (false, eval e X.env) :: starEach es X.env := by rfl) (hpl : (backTo pos (starEach es X.env)).any (·.1) = false := by rfl) : SF X (.Call (.Name x p) (e :: es) [] pos) (callA sem fs) :=
  pe_wk (pe_callC c st hj hg ha hdb he hpl) fun σ H Q q => callF_ok σ H Q q
theorem sf_ca0 (c : Cl X.prog X.w X.K X.mg X.base j x ps (spF X.K sem)) (st : Sit X k) (hj : j ≤ k := by decide) (hg : Gl X x := by rfl) (hdb : (x == ("__debug__" : Str)) = false := by decide) : SF X (.Call (.Name x p) [] [] pos) (callA sem []) :=
  pe_wk (pe_callC0 c st hj hg hdb) fun σ H Q q => callF_ok σ H Q q
theorem se_ci (c : Cl X.prog X.w X.K X.mg X.base j x ps (spI X.K semI)) (st : Sit X k) (ha : SVs X es fs) (hN : X.N[i]? = some y := by rfl) (hj : j ≤ k := by decide) (hg : Gl X x := by rfl) (hv : Vis X.env.scope y := by first | exact Or.inl rfl | exact Or.inr (Or.inl rfl) | exact Or.inr (Or.inr rfl))
    (hdb : (x == ("__debug__" : Str)) = false := by decide) (hd : (y == ("__debug__" : Str)) = false := by decide) (hcd : (y == ("__classdict__" : Str)) = false := by decide)
    (he : starEach (.Name y p' :: es) X.env = (false, eval (.Name y p') X.env) :: starEach es X.env := by rfl) (hpl : (backTo pos (starEach es X.env)).any (·.1) = false := by rfl) : SE X (.Call (.Name x p) (.Name y p' :: es) [] pos) (callI semI i fs) :=
  pe_wk (pe_callC c st hj hg (pa_cons (pe_var hN hv hd hcd) ha he) hdb he hpl) fun σ H Q q => callI_ok σ H Q q
theorem lenE {σ : L2.St} {H : Hp} {Q : List V → Hp → Prop} {n : Nat} (h : fs.length = n) (q : tVs X.K fs σ H Q) : tVs X.K fs σ H fun vs H1 => vs.length = n ∧ Q vs H1 := h ▸ tVs_len q
theorem se_ck (c : ClK X.prog X.w X.K X.mg X.base j x ps n ks idx (spA X.K sem)) (st : Sit X k) (ha : SVs X (e :: es) fs) (hkw : SVK X kws gs) (hn : fs.length = n := by rfl) (hw : gs.length = ks.length := by rfl) (hj : j ≤ k := by decide) (hg : Gl X x := by rfl)
    (hall : (backToKw pos (keywordEach kws X.env)).all (·.1.isSome) = true := by rfl) (hks : (backToKw pos (keywordEach kws X.env)).filterMap (·.1) = ks := by rfl)
    (hdb : (x == ("__debug__" : Str)) = false := by decide) (he : starEach (e :: es) X.env = (false, eval e X.env) :: starEach es X.env := by rfl)
    (hpl : ((backTo pos (starEach (e :: es) X.env)).any (·.1) || (backToKw pos (keywordEach kws X.env)).any (·.1.isNone)) = false := by rfl) : SE X (.Call (.Name x p) (e :: es) kws pos) (callK sem idx (fs ++ gs)) :=
  pe_wk (pe_callCK c st hj hg ha hkw (fun _ _ _ => lenE hn) (fun _ _ _ => lenE hw) hall hks hdb he hpl) fun σ H Q q => tVs_app (callK_ok σ H Q q)
theorem se_ck0 (c : ClK X.prog X.w X.K X.mg X.base j x ps 0 ks idx (spA X.K sem)) (st : Sit X k) (hkw : SVK X kws gs) (hw : gs.length = ks.length := by rfl) (hj : j ≤ k := by decide) (hg : Gl X x := by rfl)
    (hall : (backToKw pos (keywordEach kws X.env)).all (·.1.isSome) = true := by rfl) (hks : (backToKw pos (keywordEach kws X.env)).filterMap (·.1) = ks := by rfl)
    (hdb : (x == ("__debug__" : Str)) = false := by decide)
    (hpl : ((backTo pos (starEach [] X.env)).any (·.1) || (backToKw pos (keywordEach kws X.env)).any (·.1.isNone)) = false := by rfl) : SE X (.Call (.Name x p) [] kws pos) (callK sem idx gs) :=
  pe_wk (pe_callCK0 c st hj hg hkw (fun _ _ _ => lenE hw) hall hks hdb hpl) fun σ H Q q => callK_ok σ H Q q
theorem sf_ck (c : ClK X.prog X.w X.K X.mg X.base j x ps n ks idx (spF X.K sem)) (st : Sit X k) (ha : SVs X (e :: es) fs) (hkw : SVK X kws gs) (hn : fs.length = n := by rfl) (hw : gs.length = ks.length := by rfl) (hj : j ≤ k := by decide) (hg : Gl X x := by rfl)
    (hall : (backToKw pos (keywordEach kws X.env)).all (·.1.isSome) = true := by rfl) (hks : (backToKw pos (keywordEach kws X.env)).filterMap (·.1) = ks := by rfl)
    (hdb : (x == ("__debug__" : Str)) = false := by decide) (he : starEach (e :: es) X.env = (false, eval e X.env) :: starEach es X.env := by rfl)
    (hpl : ((backTo pos (starEach (e :: es) X.env)).any (·.1) || (backToKw pos (keywordEach kws X.env)).any (·.1.isNone)) = false := by rfl) : SF X (.Call (.Name x p) (e :: es) kws pos) (callK sem idx (fs ++ gs)) :=
  pe_wk (pe_callCK c st hj hg ha hkw (fun _ _ _ => lenE hn) (fun _ _ _ => lenE hw) hall hks hdb he hpl) fun σ H Q q => tVs_app (callKF_ok σ H Q q)
end
section
variable {K : FragK}
/-- a value whose reading names no address -/
def atomD : D → Bool
  | .none | .bool _ | .int _ | .str _ => true
  | _ => false
theorem Rp.atom {M M' : AS} {H H' : Hp} {v : V} {d : D} (h : Rp K M H v d) (a : atomD d = true) : Rp K M' H' v d := by
  cases h with
  | non => exact .non
  | bl b => exact .bl b
  | int i => exact .int i
  | str x => exact .str x
  | lst _ _ => cases a
  | tup _ _ => cases a
  | dct _ _ _ => cases a
theorem Rt.less {M : AS} {H : Hp} {v : V} {d : D} (h : Rt K M H v d) {xs : List V} (hx : v ∈ xs) : Rp K (fun a => M a ∧ V.ref a ∉ xs) H v d := by
  have st : Stab M (fun a => M a ∧ V.ref a ∉ xs) H H := fun a o h1 h2 => ⟨h1, fun z => h2 z.1⟩
  cases h with
  | val h => exact h.stab st
  | own w => exact (w.stab st rfl).rp fun z => z.2 hx
theorem Rts.less {M : AS} {H : Hp} {xs : List V} : ∀ {vs : List V} {ds : List D}, Rts K M H vs ds → (∀ v ∈ vs, v ∈ xs) → Rps K (fun a => M a ∧ V.ref a ∉ xs) H vs ds
  | _, _, .nil, _ => .nil
  | _, _, .cons h r, q => .cons (h.less (q _ List.mem_cons_self)) (r.less fun v hv => q v (List.mem_cons_of_mem _ hv))
def atomF (sem : List D → Option D) : List D → Option D := fun ds => (sem ds).bind fun d => if atomD d = true then some d else none
/-- own objects may be handed to a def whose answer names none -/
theorem spA_v {sem : List D → Option D} : VOk K (spA K sem) (atomF sem) := by
  intro M H xs ds d Q m r e q
  simp only [atomF, Option.bind_eq_some_iff] at e
  obtain ⟨d', e1, e2⟩ := e
  split at e2
  · rename_i a
    cases e2
    exact ⟨_, ds, _, fun a z => m a z.1, r.less fun v hv => hv, e1, fun v H' s p => q v H' s (p.atom a)⟩
  · cases e2
end
section
variable {X : Cx} {k j : Nat} {ps : List Str} {x : Str} {p pos : Pos} {e : Expr} {es : List Expr} {as : List AF} {sem : List D → Option D}
theorem se_cp (c : Cl X.prog X.w X.K X.mg X.base j x ps (spA X.K sem)) (st : Sit X k) (ha : SAs X (e :: es) as) (hj : j ≤ k := by decide) (hg : Gl X x := by rfl) (hdb : (x == ("__debug__" : Str)) = false := by decide)
    (he : starEach (e :: es) X.env = (false, eval e X.env) :: starEach es X.env := by rfl) (hpl : (backTo pos (starEach es X.env)).any (·.1) = false := by rfl) : SE X (.Call (.Name x p) (e :: es) [] pos) (opN (atomF sem) as) :=
  pe_wk (pe_callC c st hj hg ha hdb he hpl) fun σ H Q q => opN_ok spA_v σ H Q q
end
end MP

set_option maxRecDepth 100000
namespace MP
open PySem PySem.Spec PyProof.Rows L2

/-! ## the meaning of a def -/
def semA (n m : Nat) (g : MS) : List D → Option D := fun ds => if ds.length = n then runA (g (startE m ds)) else none
def semF (n m : Nat) (g : MS) : List D → Option D := fun ds => if ds.length = n then runF (g (startE m ds)) else none
def semI (n m : Nat) (g : MS) : D → List D → Option (D × D) := fun c ds => if ds.length = n then runI (g (.io c :: startE m ds)) else none
section
variable {P : Program} {w : World} {K : FragK} {mg : Str → Option Value} {base : Heap} {k n m : Nat} {f : Addr} {fd : FuncData} {x qual : Str} {params : Arguments} {body : List Stmt} {scope : Scope} {N ps : List Str} {g : MS}
theorem ok_A (F : FunD K x qual params body scope [] [] f fd) (S : FnScope N ps scope) (B : BodyOk P w K mg base N qual scope body k g) (hn : ps.length = n := by rfl) (hm : m = N.length - n := by rfl) : FnG P w K mg base (k + 1) f fd ps (spA K (semA n m g)) :=
  fn_A F S hn hm (fun ds d h => by
    unfold semA at h
    split at h
    · rename_i e; exact ⟨e, h⟩
    · cases h) B
theorem ok_F (F : FunD K x qual params body scope [] [] f fd) (S : FnScope N ps scope) (B : BodyOk P w K mg base N qual scope body k g) (hn : ps.length = n := by rfl) (hm : m = N.length - n := by rfl) : FnG P w K mg base (k + 1) f fd ps (spF K (semF n m g)) :=
  fn_F F S hn hm (fun ds d h => by
    unfold semF at h
    split at h
    · rename_i e; exact ⟨e, h⟩
    · cases h) B
theorem ok_I (F : FunD K x qual params body scope [] [] f fd) (S : FnScope N ps scope) (B : BodyOk P w K mg base N qual scope body k g) (hn : ps.length = n + 1 := by rfl) (hm : m = N.length - (n + 1) := by rfl) : FnG P w K mg base (k + 1) f fd ps (spI K (semI n m g)) :=
  fn_I F S hn hm (fun c ds d h => by
    unfold semI at h
    split at h
    · rename_i e; exact ⟨e, h⟩
    · cases h) B
/-- where the def stands -/
structure At (K : FragK) (mg : Str → Option Value) (x : Str) (f : Addr) (fd : FuncData) (ps : List Str) : Prop where
  m : mg x = some (.ref f)
  k : PySem.W.keepIn K (.ref f) = true
  b : Binds K fd ps []
theorem At.of (F : FunD K x qual params body scope [] [] f fd) (m : mg x = some (.ref f))
    (h : ∀ (kV doc pm : Value) (an : Option Addr) (cdv ct : Value) (us : List Value), us.length = ps.length → bindArgs (PySem.W.fnOf x qual params body scope .none kV doc pm an cdv ct) ⟨us, []⟩ = pure (ps.zip us)) : At K mg x f fd ps :=
  ⟨m, F.kp, F.bindsN h⟩
theorem At.cl {sp : SpG} (a : At K mg x f fd ps) (F : FnG P w K mg base k f fd ps sp) : Cl P w K mg base k x ps sp := ⟨f, fd, a.m, a.k, a.b, F⟩
theorem At.ck {sp : SpG} {ks : List Str} {idx : List Nat} (a : At K mg x f fd ps) (h : KB fd ps n ks idx) (F : FnG P w K mg base k f fd ps sp) : ClK P w K mg base k x ps n ks idx sp := ⟨f, fd, a.m, a.k, h, F⟩
end

/-! ## the law's end -/
theorem klst_script {K : FragK} {h : Heap} {a : Addr} {o : Obj} {vs : List Value} {ns : List Int} (KX : K.In h) (hk : K.lookup a = some o) (ha : h.get? a = some { cls := .type "list", data := .seq vs.toArray }) (rv : Vals (ns.map V.int) vs) (hl : ns.length ≤ sizeLine) : KLst K a (ns.map V.int) := by
  have e := KX a o hk
  rw [ha] at e
  cases e
  exact ⟨vs, _, hk, by rw [List.length_map]; exact hl, rv⟩
theorem rps_ints {K : FragK} {M : AS} {H : Hp} : ∀ ns : List Int, Rps K M H (ns.map V.int) (ns.map PyData.int)
  | [] => .nil
  | n :: ns => .cons (.int n) (rps_ints ns)
theorem law_entry {P : Program} {w : World} {K : FragK} {mg mb : Str → Option Value} {k : Nat} {fa a : Addr} {fd : FuncData} {x : Str} {sem : List D → Option D} {s₁ : Shared} {vs : List Value} {ns : List Int}
    (KX : K.In s₁.heap) (hns : s₁.heap.Ns mainGlobals mg) (hb : s₁.heap.Ns builtinsNs mb) (hbb : ∀ x : Str, x ≠ "__name__" → mb x = bootBuiltins x) (hlim : s₁.heap.NoLimit) (hg : s₁.gens = #[])
    (ha : s₁.heap.get? a = some { cls := .type "list", data := .seq vs.toArray }) (hi : IntsAre vs ns) (hl : ns.length ≤ sizeLine) (hr : Room k callerA) (hgu : callerA.guards = some [])
    (F : ∀ base : Heap, K.In base → base.Ns mainGlobals mg → FnG P w K mg base k fa fd [x] (spA K sem)) (hbind : ∀ (s : Shared) (u : Value), BindsTo s fd ⟨[u], []⟩ [(x, u)])
    (hsem : sem [.list (ns.map .int)] = some (.bool true)) :
    codeAny (model P w) callerA (.call (.ref fa) ⟨[.ref a], []⟩) (fun r s' => r = .ok (.ret (.bool true)) ∧ OldK s₁.heap s'.heap ∧ s'.os = s₁.os ∧ AllBare s'.gens) s₁ := by
  have rv := vals_ints hi
  have core : ∀ H : Hp, Only H → AtL K (fun _ => False) H a (ns.map V.int) → HOk P w H s₁.heap → (∀ b, H b ≠ none → b = a) → (H a ≠ none → K.lookup a = none) →
      codeAny (model P w) callerA (.call (.ref fa) ⟨[.ref a], []⟩) (fun r s' => r = .ok (.ret (.bool true)) ∧ OldK s₁.heap s'.heap ∧ s'.os = s₁.os ∧ AllBare s'.gens) s₁ := by
    intro H hO hS hok hA hK
    have notA : ∀ {b : Addr} {o : Obj}, s₁.heap.get? b = some o → (b = a → False) → (hidT s₁.heap H).get? b = some o := fun {b o} e n => hidT_get e (by
      cases q : H b with
      | none => rfl
      | some u => exact (n (hA b (by rw [q]; simp))).elim)
    have nsK : ∀ {b : Addr} {m : Str → Option Value}, s₁.heap.Ns b m → (hidT s₁.heap H).Ns b m := fun {b m} ⟨o, es, ep, e, d, r⟩ => ⟨o, es, ep, notA e (fun z => by
      subst z
      rw [ha] at e; cases e
      have d' : Data.seq vs.toArray _ = Data.dict es ep := d
      cases d'), d, r⟩
    have hKb : K.In (hidT s₁.heap H) := fun b o e => hidT_get (KX b o e) (by
      cases q : H b with
      | none => rfl
      | some u =>
        obtain rfl : b = a := hA b (by rw [q]; simp)
        rw [hK (by rw [q]; simp)] at e; cases e)
    have hM : Mod K mg (hidT s₁.heap H) := ⟨hKb, nsK hns, ⟨mb, nsK hb, hbb⟩, let ⟨mc, h1, h2⟩ := hlim; ⟨mc, nsK h1, h2⟩⟩
    have e0 : Env0 P w K mg (hidT s₁.heap H) callerA [] s₁ H := ⟨rfl, hM, fun b o e => of_hidT e, Nat.le_of_eq (hidT_size _ _), trivial, fun b hb => absurd (show b ∈ ([] : List Addr) from hb) (by simp), hok, .of_eq hg⟩
    have start : spA K sem [.ref a] H fun v _ => v = .bl true := ⟨fun _ => False, _, _, fun _ z => z.elim, .cons (.lst hS (rps_ints ns)) .nil, hsem, fun v H' _ r => by cases r; rfl⟩
    refine codeAny_mono ((F _ hKb (nsK hns)).run callerA [] s₁ H ⟨[.ref a], []⟩ [.ref a] [.ref a] _ hr hgu e0 (hbind s₁ (.ref a)) (.cons rfl .nil) start) fun r s' h => ?_
    cases r with
    | error e => exact False.elim h
    | ok fl =>
      cases fl with
      | next => exact False.elim h
      | brk => exact False.elim h
      | cont => exact False.elim h
      | ret u =>
        obtain ⟨v, H', os, bare, un, hok', r', q⟩ := h
        obtain rfl : v = .bl true := q
        obtain rfl : u = Value.bool true := r'
        refine ⟨rfl, OldK.of_keep fun b o e => ?_, os, bare⟩
        cases q : H b with
        | none => exact un.keep b o e q (by intro z; exact absurd (show b ∈ ([] : List Addr) from z) (by simp)) (by simp)
        | some u =>
          rcases hO b with z | ⟨ob, xs, z⟩
          · rw [q] at z; cases z
          · have z2 := un.frzs b ob _ z
            obtain ⟨e1, _⟩ := hok b _ z
            obtain ⟨e2, _⟩ := hok' b _ z2
            rw [e] at e1; cases e1
            exact e2
  cases hk : K.lookup a with
  | some o => exact core (fun _ => none) (fun _ => .inl rfl) (.inr (klst_script KX hk ha rv hl)) (fun b u z => by have z' : (none : Option HO) = some u := z; cases z') (fun b z => absurd rfl z) fun z => absurd rfl z
  | none =>
    refine core (fun b => if b = a then some (.frz { cls := .type "list", data := .seq vs.toArray } (.lst (ns.map V.int))) else none) (fun b => ?_) (.inl ⟨fun z => z, .inr ⟨{ cls := .type "list", data := .seq vs.toArray }, if_pos rfl⟩⟩) (fun b u z => ?_) (fun b z => ?_) fun _ => hk
    · by_cases hb : b = a
      · exact .inr ⟨_, _, if_pos hb⟩
      · exact .inl (if_neg hb)
    · by_cases hb : b = a
      · have z' := (if_pos hb).symm.trans z
        cases z'
        subst hb
        exact ⟨ha, by rw [List.length_map]; exact hl, vs, _, rv, ha⟩
      · have z' := (if_neg hb).symm.trans z
        cases z'
    · by_cases hb : b = a
      · exact hb
      · exact absurd (if_neg hb) z
theorem walk_ofG {l : PySem.W.OpenLaw} {n k : Nat} {q : Program} {loose : List Str} {XP : (Str → Option Value) → Heap → Prop} {YP : World → Heap → Prop} {d : DefRec} {x : Str}
    (hn : l.most = some n) (hn2 : n ≤ sizeLine) (hdf : d.params.defaults = []) (hr : Room k callerA) (hgu : callerA.guards = some [])
    (F : ∀ (w : World) (mg : Str → Option Value) (fa : Addr) (h : Heap), YP w h → h.Ns mainGlobals mg → mg d.name = some (.ref fa) →
      ∃ (K : FragK) (fd : FuncData) (sem : List D → Option D), K.In h ∧ (∀ (s : Shared) (u : Value), BindsTo s fd ⟨[u], []⟩ [(x, u)]) ∧
        (∀ ns : List Int, ns.length ≤ n → (∀ k ∈ ns, Builtin.Int.intBits k ≤ 1048576) → sem [.list (ns.map .int)] = some (.bool true)) ∧
        ∀ base : Heap, K.In base → base.Ns mainGlobals mg → FnG l.prog w K mg base k fa fd [x] (spA K sem)) :
    PySem.W.WalkO q loose XP YP l.row.toRowW d [] (fun f vs => PySem.call f vs) := by
  refine Att.attach_callB hn hdf fun w s₀ s₁ mg mb fa o pm cd doc a vs ns G Y ho hd hcd hmg hobj hints hlen hbits hg => ?_
  obtain ⟨K, fd, sem, KX, hb, hsem, hF⟩ := F w mg fa _ Y G.T.g hmg
  exact law_entry KX G.T.g G.T.b G.T.builtins G.T.nolimit hg hobj hints (Nat.le_trans hlen hn2) hr hgu hF hb (hsem ns hlen hbits)
example : callerA.guards = some [] := rfl
example : Room 100 callerA := ⟨rfl, by decide, by decide⟩
end MP

set_option maxRecDepth 100000
namespace MP
open PySem PySem.Spec PyProof.Rows L2

/-! ## isinstance -/
inductive Ty where
  | int | bool | str | tup | lst | dct
def Ty.name : Ty → String
  | .int => "int" | .bool => "bool" | .str => "str" | .tup => "tuple" | .lst => "list" | .dct => "dict"
def tyD : D → String
  | .none => "NoneType" | .bool _ => "bool" | .int _ => "int" | .str _ => "str" | .list _ => "list" | .tuple _ => "tuple" | .dict _ => "dict"
def isTy : Ty → D → Bool
  | .int, .int _ => true
  | .int, .bool _ => true
  | .bool, .bool _ => true
  | .str, .str _ => true
  | .tup, .tuple _ => true
  | .lst, .list _ => true
  | .dct, .dict _ => true
  | _, _ => false
theorem kit_isTy (T : Ty) (d : D) : kitB (tyD d) T.name = some (isTy T d) := by
  cases T <;> cases d <;> kernel_rfl
theorem KLst.ty {K : FragK} {H : Hp} {a : Addr} {xs : List V} (h : KLst K a xs) : TyX K H (.ref a) (.type "list") := by
  obtain ⟨its, n, e, _, _⟩ := h
  exact .kList e rfl
theorem KTup.ty {K : FragK} {H : Hp} {a : Addr} {xs : List V} (h : KTup K a xs) : TyX K H (.ref a) (.type "tuple") := by
  rcases h (fun _ => none) with (h | ⟨o, h⟩) | ⟨o, its, n, e, c, _⟩
  · cases h
  · cases h
  · exact .kTuple e c
theorem Rt.ty {K : FragK} {M : AS} {H : Hp} {v : V} {d : D} (h : Rt K M H v d) : TyX K H v (.type (tyD d)) := by
  cases h with
  | val h =>
    cases h with
    | non => exact .base .non
    | bl b => exact .base (.bl b)
    | int i => exact .base (.int i)
    | str x => exact .base (.str x)
    | lst a r =>
      rcases a with ⟨_, h | ⟨o, h⟩⟩ | h
      · exact .base (.lst h)
      · exact .base (.frz h)
      · exact h.ty
    | tup a r =>
      rcases a with ⟨_, h | ⟨o, h⟩⟩ | h
      · exact .base (.tup h)
      · exact .fTuple h
      · exact h.ty
    | dct m a r =>
      rcases a with h | ⟨o, h⟩
      · exact .base (.dK h)
      · exact .fDict h
  | own w =>
    cases w with
    | lst e r => exact .base (.lst e)
    | dct e r => exact .base (.dK e)
theorem Rt.same {K : FragK} {M : AS} {H H' : Hp} {v : V} {d : D} (h : Rt K M H v d) (s : Same H H') : Rt K M H' v d := by
  cases h with
  | val h => exact .val (h.stab (.same s))
  | own w => exact .own (w.same s)
def isiD (T : Ty) : List D → Option D
  | [d] => some (.bool (isTy T d))
  | _ => none
def isiD2 (Ts : List Ty) : List D → Option D
  | [d] => some (.bool (Ts.any fun T => isTy T d))
  | _ => none
theorem isi_v {K : FragK} (T : Ty) : VOk K (fun xs H Q => match xs with
    | [x] => rIsi K [x, .ty T.name] H Q
    | _ => False) (isiD T) := by
  intro M H xs ds d Q m p e q
  unfold isiD at e
  split at e
  · obtain ⟨x, rfl, h⟩ := p.one
    cases e
    exact ⟨x, _, _, _, _, rfl, .ty _, h.ty, kit_ty (kit_isTy T _), q _ H (fun _ _ h => h) (.bl _)⟩
  · cases e
theorem kitAny_tys {K : FragK} {d : D} : ∀ Ts : List Ty, PySem.W.kitAny K (.type (tyD d)) (Ts.map fun T => Value.type T.name) = some (Ts.any fun T => isTy T d)
  | [] => rfl
  | T :: Ts => by
    rw [List.map_cons, List.any_cons]
    refine kitAny_cons (kit_ty (kit_isTy T d)) (fun e => ?_) fun e => ?_
    · rw [e, Bool.false_or]; exact kitAny_tys Ts
    · rw [e, Bool.true_or]
theorem paired_tys : ∀ Ts : List Ty, Paired ClsV (Ts.map fun T => V.ty T.name) (Ts.map fun T => Value.type T.name)
  | [] => .nil
  | _ :: Ts => .cons (.ty _) (paired_tys Ts)
theorem isi2_v {K : FragK} (Ts : List Ty) : VOk K (fun xs H Q => match xs with
    | [x] => ∀ p, H p = none → rIsiT K [x, .ref p] (upd H p (.tup (Ts.map fun T => V.ty T.name))) Q
    | _ => False) (isiD2 Ts) := by
  intro M H xs ds d Q m p e q
  unfold isiD2 at e
  split at e
  · obtain ⟨x, rfl, h⟩ := p.one
    cases e
    refine fun tp hn => ⟨x, tp, _, _, _, _, rfl, upd_same, paired_tys Ts, (h.same (same_upd hn)).ty, kitAny_tys Ts, q _ _ (same_upd hn) (.bl _)⟩
  · cases e

section
variable {X : Cx} {e : Expr} {A : AF} {p p2 p3 p4 pos : Pos} {k : Nat}
theorem pe_tyn (T : Ty) {x : Str} (hm : X.mg x = none) (hg : Gl X x := by rfl) (hv : bootBuiltins x = some (.type T.name) := by rfl) (hn : x ≠ "__name__" := by decide) (hd : (x == ("__debug__" : Str)) = false := by decide) : PE X (.Name x p) (tC (.ty T.name)) :=
  pe_bltn hg hm hv rfl hn hd
theorem se_isi (T : Ty) {x : Str} (hi : X.mg "isinstance" = none) (hm : X.mg x = none) (ha : SA X e A) (hgi : Gl X "isinstance" := by rfl) (hg : Gl X x := by rfl) (hv : bootBuiltins x = some (.type T.name) := by rfl) (hn : x ≠ "__name__" := by decide) (hd : (x == ("__debug__" : Str)) = false := by decide)
    (he : starEach [e, .Name x p2] X.env = (false, eval e X.env) :: starEach [.Name x p2] X.env := by rfl) (he2 : starEach [.Name x p2] X.env = (false, eval (.Name x p2) X.env) :: starEach [] X.env := by rfl) (hpl : (backTo pos (starEach [.Name x p2] X.env)).any (·.1) = false := by rfl) :
    SE X (.Call (.Name "isinstance" p) [e, .Name x p2] [] pos) (opN (isiD T) [A]) :=
  pe_wk (pe_callB call_isi hgi hi PyProof.Rows.boot_isinstance (pa_cons ha (pa_cons (pe_bltn hg hm hv (v := .ty T.name) rfl hn hd) pa_nil he2) he) (by decide) (by decide) he hpl) fun σ H Q q => opN_ok (isi_v T) σ H Q q
theorem se_isi2 (T U : Ty) {x y : Str} (hi : X.mg "isinstance" = none) (hm : X.mg x = none) (hm2 : X.mg y = none) (ha : SA X e A) (hgi : Gl X "isinstance" := by rfl) (hg : Gl X x := by rfl) (hg2 : Gl X y := by rfl) (hv : bootBuiltins x = some (.type T.name) := by rfl) (hv2 : bootBuiltins y = some (.type U.name) := by rfl)
    (hn : x ≠ "__name__" := by decide) (hd : (x == ("__debug__" : Str)) = false := by decide) (hn2 : y ≠ "__name__" := by decide) (hd2 : (y == ("__debug__" : Str)) = false := by decide)
    (he : starEach [e, .Tuple [.Name x p2, .Name y p3] k p4] X.env = (false, eval e X.env) :: starEach [.Tuple [.Name x p2, .Name y p3] k p4] X.env := by rfl) (he2 : starEach [.Tuple [.Name x p2, .Name y p3] k p4] X.env = (false, eval (.Tuple [.Name x p2, .Name y p3] k p4) X.env) :: starEach [] X.env := by rfl) 
    (he3 : starEach [.Name x p2, .Name y p3] X.env = (false, eval (.Name x p2) X.env) :: starEach [.Name y p3] X.env := by rfl) (he4 : starEach [.Name y p3] X.env = (false, eval (.Name y p3) X.env) :: starEach [] X.env := by rfl)
    (hpl : (backTo pos (starEach [.Tuple [.Name x p2, .Name y p3] k p4] X.env)).any (·.1) = false := by rfl) :
    SE X (.Call (.Name "isinstance" p) [e, .Tuple [.Name x p2, .Name y p3] k p4] [] pos) (opN (isiD2 [T, U]) [A]) := by
  refine pe_wk (pe_callB call_isiT hgi hi PyProof.Rows.boot_isinstance (pa_cons ha (pa_cons (pe_tup (pa_cons (pe_bltn hg hm hv (v := .ty T.name) rfl hn hd) (pa_cons (pe_bltn hg2 hm2 hv2 (v := .ty U.name) rfl hn2 hd2) pa_nil he4) he3)) pa_nil he2) he) (by decide) (by decide) he hpl) fun σ H Q q => ?_
  have h := opN_ok (isi2_v [T, U]) σ H Q q
  have mono : ∀ {A : AF} {σ : L2.St} {H : Hp} {r r' : VK}, (∀ x H, r x H → r' x H) → tArg X.K A σ H r → tArg X.K A σ H r' := fun {A σ H r r'} w h => by
    cases A with
    | v f => exact tE_mono h w
    | p k => obtain ⟨x, e, h⟩ := h; exact ⟨x, e, w _ _ h⟩
  exact mono (fun x H h => ⟨by show 2 ≤ sizeLine; rw [sizeLine_eq]; omega, fun p np => h p np⟩) h
end

/-! ## slices -/
def cutD (xs : List D) (lo hi : Option Int) : List D := (xs.drop (HT.sIx xs.length 0 lo)).take (HT.sIx xs.length xs.length hi - HT.sIx xs.length 0 lo)
def sliceD (lo hi : Option Int) : D → Option D
  | .list xs => some (.list (cutD xs lo hi))
  | .tuple xs => some (.tuple (cutD xs lo hi))
  | .str x => if x.length ≤ sizeLine then some (.str (cutS x lo hi)) else none
  | _ => none
def sliceF (lo hi : Option Int) : D → Option D
  | .list xs => some (.list (cutD xs lo hi))
  | _ => none
theorem Rps.cut {K : FragK} {M : AS} {H : Hp} {xs : List V} {ds : List D} (r : Rps K M H xs ds) (lo hi : Option Int) : Rps K M H (cutV xs lo hi) (cutD ds lo hi) := by
  unfold cutV cutD
  rw [r.length]
  exact (r.drop _).take _
abbrev RSl := V → Option Int → Option Int → Hp → VK → Prop
def rSlD (K : FragK) : RSl := fun x lo hi H Q => rSlL K x lo hi H Q ∨ rSlA K x lo hi H Q ∨ rSlS x lo hi H Q
theorem sl_D {X : Cx} : SlR X (rSlD X.K) := sl_list.or (sl_tupA.or sl_str)
theorem rSl_v {K : FragK} (lo hi : Option Int) {M : AS} {H : Hp} {x : V} {d c : D} {Q : VK} (m : MDom M H) (r : Rt K M H x d) (e : sliceD lo hi d = some c) (q : ∀ v H', Same H H' → Rp K M H' v c → Q v H') : rSlD K x lo hi H Q := by
  unfold sliceD at e
  split at e
  · obtain ⟨a, xs, rfl, h, rs⟩ := r.lst'
    cases e
    refine .inl ⟨a, xs, rfl, h.sq, fun p np => ?_⟩
    exact q _ _ (same_upd np) ((Nw.ow (new_lst (rs.cut lo hi)) (same_upd np)).rp (m.new np))
  · rename_i ds
    cases e
    have r' := rtup_same r
    obtain ⟨a, xs, rfl, h, rs⟩ := r.tup'
    refine .inr (.inl ⟨a, xs, rfl, h.sq, fun w => q _ H (fun _ _ h => h) ?_, fun _ p np => q _ _ (same_upd np) (rp_tup m np (rs.cut lo hi))⟩)
    have : cutD ds lo hi = ds := by
      unfold cutD
      rw [← rs.length, w.1, w.2, List.drop_zero, Nat.sub_zero, rs.length, List.take_length]
    rw [this]
    exact r'
  · split at e
    · obtain rfl := r.str'
      cases e
      rename_i hz
      exact .inr (.inr ⟨_, rfl, hz, q _ H (fun _ _ h => h) (.str _)⟩)
    · cases e
  · cases e
theorem rSl_f {K : FragK} (lo hi : Option Int) {M : AS} {H : Hp} {x : V} {d c : D} {Q : VK} (r : Rt K M H x d) (e : sliceF lo hi d = some c) (q : ∀ p H', Same H H' → H p = none → Nw K M H H' p c → Q (.ref p) H') : rSlD K x lo hi H Q := by
  unfold sliceF at e
  split at e
  · obtain ⟨a, xs, rfl, h, rs⟩ := r.lst'
    cases e
    exact .inl ⟨a, xs, rfl, h.sq, fun p np => q _ _ (same_upd np) np (new_lst (rs.cut lo hi))⟩
  · cases e
def sl00 (g : Option Int → Option Int → D → Option D) : List D → Option D
  | [d] => g none none d
  | _ => none
def sl10 (g : Option Int → Option Int → D → Option D) : List D → Option D
  | [d, .int i] => g (some i) none d
  | _ => none
def sl01 (g : Option Int → Option Int → D → Option D) : List D → Option D
  | [d, .int i] => g none (some i) d
  | _ => none
def sl11 (g : Option Int → Option Int → D → Option D) : List D → Option D
  | [d, .int i, .int j] => g (some i) (some j) d
  | _ => none
section
variable {X : Cx} {e a b : Expr} {A : AF} {f g : ME} {pos p2 : Pos}
def rs00 (K : FragK) : List V → Hp → VK → Prop := fun xs H Q => match xs with
  | [x] => rSlD K x none none H Q
  | _ => False
def rs10 (K : FragK) : List V → Hp → VK → Prop := fun xs H Q => match xs with
  | [x, y] => ∃ i, y = .int i ∧ rSlD K x (some i) none H Q
  | _ => False
def rs01 (K : FragK) : List V → Hp → VK → Prop := fun xs H Q => match xs with
  | [x, y] => ∃ i, y = .int i ∧ rSlD K x none (some i) H Q
  | _ => False
def rs11 (K : FragK) : List V → Hp → VK → Prop := fun xs H Q => match xs with
  | [x, y, z] => ∃ i, y = .int i ∧ ∃ j, z = .int j ∧ rSlD K x (some i) (some j) H Q
  | _ => False
theorem v00 {K : FragK} : VOk K (rs00 K) (sl00 sliceD) := by
  intro M H xs ds d Q m p e q
  unfold sl00 at e
  split at e
  · obtain ⟨x, rfl, h⟩ := p.one
    exact rSl_v _ _ m h e q
  · cases e
theorem v10 {K : FragK} : VOk K (rs10 K) (sl10 sliceD) := by
  intro M H xs ds d Q m p e q
  unfold sl10 at e
  split at e
  · obtain ⟨x, y, rfl, h, h2⟩ := p.two
    exact ⟨_, h2.int', rSl_v _ _ m h e q⟩
  · cases e
theorem v01 {K : FragK} : VOk K (rs01 K) (sl01 sliceD) := by
  intro M H xs ds d Q m p e q
  unfold sl01 at e
  split at e
  · obtain ⟨x, y, rfl, h, h2⟩ := p.two
    exact ⟨_, h2.int', rSl_v _ _ m h e q⟩
  · cases e
theorem v11 {K : FragK} : VOk K (rs11 K) (sl11 sliceD) := by
  intro M H xs ds d Q m p e q
  unfold sl11 at e
  split at e
  · obtain ⟨x, y, z, rfl, h, h2, h3⟩ := p.three
    exact ⟨_, h2.int', _, h3.int', rSl_v _ _ m h e q⟩
  · cases e
theorem f00 {K : FragK} : FOk K (rs00 K) (sl00 sliceF) := by
  intro M H xs ds d Q m p e q
  unfold sl00 at e
  split at e
  · obtain ⟨x, rfl, h⟩ := p.one
    exact rSl_f _ _ h e fun p H' s n w => q p H H' (fun _ _ h => h) s n w
  · cases e
theorem f10 {K : FragK} : FOk K (rs10 K) (sl10 sliceF) := by
  intro M H xs ds d Q m p e q
  unfold sl10 at e
  split at e
  · obtain ⟨x, y, rfl, h, h2⟩ := p.two
    exact ⟨_, h2.int', rSl_f _ _ h e fun p H' s n w => q p H H' (fun _ _ h => h) s n w⟩
  · cases e
theorem f01 {K : FragK} : FOk K (rs01 K) (sl01 sliceF) := by
  intro M H xs ds d Q m p e q
  unfold sl01 at e
  split at e
  · obtain ⟨x, y, rfl, h, h2⟩ := p.two
    exact ⟨_, h2.int', rSl_f _ _ h e fun p H' s n w => q p H H' (fun _ _ h => h) s n w⟩
  · cases e
theorem f11 {K : FragK} : FOk K (rs11 K) (sl11 sliceF) := by
  intro M H xs ds d Q m p e q
  unfold sl11 at e
  split at e
  · obtain ⟨x, y, z, rfl, h, h2, h3⟩ := p.three
    exact ⟨_, h2.int', _, h3.int', rSl_f _ _ h e fun p H' s n w => q p H H' (fun _ _ h => h) s n w⟩
  · cases e
theorem se_sl00 (he : SA X e A) : SE X (.Subscript e (.Slice none none none p2) pos) (opN (sl00 sliceD) [A]) := pe_wk (pe_slice sl_D he po_none po_none) fun σ H Q q => opN_ok v00 σ H Q q
theorem se_sl10 (he : SA X e A) (ha : SE X a f) : SE X (.Subscript e (.Slice (some a) none none p2) pos) (opN (sl10 sliceD) [A, .v f]) := pe_wk (pe_slice sl_D he (po_some ha) po_none) fun σ H Q q => opN_ok v10 σ H Q q
theorem se_sl01 (he : SA X e A) (ha : SE X a f) : SE X (.Subscript e (.Slice none (some a) none p2) pos) (opN (sl01 sliceD) [A, .v f]) := pe_wk (pe_slice sl_D he po_none (po_some ha)) fun σ H Q q => opN_ok v01 σ H Q q
theorem tE_int {K : FragK} {f g : ME} {σ : L2.St} {H : Hp} {r : Int → Int → Hp → Prop} (h : tE K f σ H fun y H1 => tE K g σ H1 fun z H2 => ∃ i, y = .int i ∧ ∃ j, z = .int j ∧ r i j H2) : tE K f σ H fun y H1 => tE K g σ H1 fun z H2 => ∃ i, y = .int i ∧ ∃ j, z = .int j ∧ r i j H2 := h
end

/-! ## a few calls -/
def bitsD : List D → Option D
  | [.int i] => some (.int (Builtin.Int.intBits i : Nat))
  | _ => none
def asInts : List D → Option (List Int)
  | [] => some []
  | .int i :: ds => (asInts ds).map (i :: ·)
  | _ => none
def asBls : List D → Option (List Bool)
  | [] => some []
  | .bool i :: ds => (asBls ds).map (i :: ·)
  | _ => none
theorem asInts_ok : ∀ {ds : List D} {ns : List Int}, asInts ds = some ns → ds = ns.map .int
  | [], _, e => by cases e; rfl
  | .int i :: ds, _, e => by
    obtain ⟨ns, e1, e2⟩ := Option.map_eq_some_iff.mp (show (asInts ds).map (i :: ·) = some _ from e)
    subst e2
    rw [asInts_ok e1]; rfl
  | .none :: _, _, e => by cases e
  | .bool _ :: _, _, e => by cases e
  | .str _ :: _, _, e => by cases e
  | .list _ :: _, _, e => by cases e
  | .tuple _ :: _, _, e => by cases e
  | .dict _ :: _, _, e => by cases e
theorem asBls_ok : ∀ {ds : List D} {ns : List Bool}, asBls ds = some ns → ds = ns.map .bool
  | [], _, e => by cases e; rfl
  | .bool i :: ds, _, e => by
    obtain ⟨ns, e1, e2⟩ := Option.map_eq_some_iff.mp (show (asBls ds).map (i :: ·) = some _ from e)
    subst e2
    rw [asBls_ok e1]; rfl
  | .none :: _, _, e => by cases e
  | .int _ :: _, _, e => by cases e
  | .str _ :: _, _, e => by cases e
  | .list _ :: _, _, e => by cases e
  | .tuple _ :: _, _, e => by cases e
  | .dict _ :: _, _, e => by cases e
theorem asInts_map : ∀ ns : List Int, asInts (ns.map .int) = some ns
  | [] => rfl
  | n :: ns => by
    show (asInts (ns.map .int)).map (n :: ·) = _
    rw [asInts_map ns]; rfl
theorem asBls_map : ∀ ns : List Bool, asBls (ns.map .bool) = some ns
  | [] => rfl
  | n :: ns => by
    show (asBls (ns.map .bool)).map (n :: ·) = _
    rw [asBls_map ns]; rfl
theorem Rps.ints {K : FragK} {M : AS} {H : Hp} : ∀ {ns : List Int} {xs : List V}, Rps K M H xs (ns.map .int) → xs = ns.map V.int
  | [], _, r => by cases r; rfl
  | n :: ns, _, r => by
    cases r with
    | cons h r =>
      cases h
      rw [Rps.ints r]; rfl
theorem Rps.bls {K : FragK} {M : AS} {H : Hp} : ∀ {ns : List Bool} {xs : List V}, Rps K M H xs (ns.map .bool) → xs = ns.map V.bl
  | [], _, r => by cases r; rfl
  | n :: ns, _, r => by
    cases r with
    | cons h r =>
      cases h
      rw [Rps.bls r]; rfl
def sumD : List D → Option D
  | [.list ds] => (asInts ds).map fun ns => .int ns.sum
  | _ => none
def allD : List D → Option D
  | [.list ds] => (asBls ds).map fun bs => .bool (bs.all id)
  | _ => none
def anyD : List D → Option D
  | [.list ds] => (asBls ds).map fun bs => .bool (bs.any id)
  | _ => none
def maxLD : List D → Option D
  | [.list ds] => (asInts ds).bind fun ns => ns.max?.map .int
  | _ => none
def minLD : List D → Option D
  | [.list ds] => (asInts ds).bind fun ns => ns.min?.map .int
  | _ => none
section
variable {X : Cx} {e a b : Expr} {A B : AF} {f g : ME} {pos apos p p2 : Pos}
theorem se_bits (he : SA X e A) (hbase : attributeBase e "bit_length" X.env (eval e X.env) = eval e X.env := by rfl) (hline : (apos.endLine == pos.line) = true := by rfl) : SE X (.Call (.Attribute e "bit_length" apos) [] [] pos) (opN bitsD [A]) := by
  refine pe_wk (pe_bits he hbase hline) fun σ H Q q => opN_ok (r := fun xs H Q => match xs with
    | [x] => ∃ i, x = .int i ∧ Q (.int (Builtin.Int.intBits i : Nat)) H
    | _ => False) (fun M H xs ds d Q m p e q => ?_) σ H Q q
  unfold bitsD at e
  split at e
  · obtain ⟨x, rfl, h⟩ := p.one
    cases e
    exact ⟨_, h.int', q _ H (fun _ _ h => h) (.int _)⟩
  · cases e
theorem sum_ok (hc : X.calm = true) : Cal X (.builtin "sum") sumD := by
  refine ⟨_, cr_sum hc, fun M H xs ds d Q m p e q => ?_⟩
  unfold sumD at e
  split at e
  · obtain ⟨x, rfl, h⟩ := p.one
    obtain ⟨ns, e1, e2⟩ := Option.map_eq_some_iff.mp e
    cases e2
    obtain ⟨a, xs, rfl, h1, r⟩ := h.lst'
    rw [asInts_ok e1] at r
    have := r.ints
    subst this
    exact ⟨a, ns, rfl, h1.sq, q _ H (fun _ _ h => h) (.int _)⟩
  · cases e
theorem all_ok (hc : X.calm = true) : Cal X (.builtin "all") allD := by
  refine ⟨_, cr_all hc, fun M H xs ds d Q m p e q => ?_⟩
  unfold allD at e
  split at e
  · obtain ⟨x, rfl, h⟩ := p.one
    obtain ⟨ns, e1, e2⟩ := Option.map_eq_some_iff.mp e
    cases e2
    obtain ⟨a, xs, rfl, h1, r⟩ := h.lst'
    rw [asBls_ok e1] at r
    have := r.bls
    subst this
    exact ⟨a, ns, rfl, h1.sq, q _ H (fun _ _ h => h) (.bl _)⟩
  · cases e
theorem any_ok (hc : X.calm = true) : Cal X (.builtin "any") anyD := by
  refine ⟨_, cr_any hc, fun M H xs ds d Q m p e q => ?_⟩
  unfold anyD at e
  split at e
  · obtain ⟨x, rfl, h⟩ := p.one
    obtain ⟨ns, e1, e2⟩ := Option.map_eq_some_iff.mp e
    cases e2
    obtain ⟨a, xs, rfl, h1, r⟩ := h.lst'
    rw [asBls_ok e1] at r
    have := r.bls
    subst this
    exact ⟨a, ns, rfl, h1.sq, q _ H (fun _ _ h => h) (.bl _)⟩
  · cases e
theorem maxL_ok (hc : X.calm = true) : Cal X (.builtin "max") maxLD := by
  refine ⟨_, cr_max hc, fun M H xs ds d Q m p e q => ?_⟩
  unfold maxLD at e
  split at e
  · obtain ⟨x, rfl, h⟩ := p.one
    obtain ⟨ns, e1, e2⟩ := Option.bind_eq_some_iff.mp e
    obtain ⟨z, e3, e4⟩ := Option.map_eq_some_iff.mp e2
    cases e4
    obtain ⟨a, xs, rfl, h1, r⟩ := h.lst'
    rw [asInts_ok e1] at r
    have := r.ints
    subst this
    rw [List.max?_eq_some_iff] at e3
    refine ⟨a, ns, rfl, h1.sq, List.length_pos_of_mem e3.1, fun m' h2 h3 => ?_⟩
    have : m' = z := Int.le_antisymm (e3.2 _ h2) (h3 _ e3.1)
    subst this
    exact q _ H (fun _ _ h => h) (.int _)
  · cases e
theorem minL_ok (hc : X.calm = true) : Cal X (.builtin "min") minLD := by
  refine ⟨_, cr_min hc, fun M H xs ds d Q m p e q => ?_⟩
  unfold minLD at e
  split at e
  · obtain ⟨x, rfl, h⟩ := p.one
    obtain ⟨ns, e1, e2⟩ := Option.bind_eq_some_iff.mp e
    obtain ⟨z, e3, e4⟩ := Option.map_eq_some_iff.mp e2
    cases e4
    obtain ⟨a, xs, rfl, h1, r⟩ := h.lst'
    rw [asInts_ok e1] at r
    have := r.ints
    subst this
    rw [List.min?_eq_some_iff] at e3
    refine ⟨a, ns, rfl, h1.sq, List.length_pos_of_mem e3.1, fun m' h2 h3 => ?_⟩
    have : m' = z := Int.le_antisymm (h3 _ e3.1) (e3.2 _ h2)
    subst this
    exact q _ H (fun _ _ h => h) (.int _)
  · cases e
end

/-! ## is of bools; powers -/
def isBD : List D → Option D
  | [.bool a, .bool b] => some (.bool (a == b))
  | _ => none
def notBD : List D → Option D
  | [.bool a, .bool b] => some (.bool (a != b))
  | _ => none
def powD : List D → Option D
  | [.int a, .int n] => if 0 ≤ n ∧ n ≤ 1000 ∧ a.natAbs < 2 ^ 1000 then some (.int (a ^ n.toNat)) else none
  | _ => none
section
variable {X : Cx}
theorem isB_ok : Op2 X (compareOp .Is) isBD := by
  refine ⟨_, op_isBl, fun M H xs ds d Q m p e q => ?_⟩
  unfold isBD at e
  split at e
  · obtain ⟨x, y, rfl, h1, h2⟩ := p.two
    obtain rfl := h1.bl'
    obtain rfl := h2.bl'
    cases e
    exact ⟨_, _, rfl, rfl, q _ H (fun _ _ h => h) (.bl _)⟩
  · cases e
theorem notB_ok : Op2 X (compareOp .IsNot) notBD := by
  refine ⟨_, op_notBl, fun M H xs ds d Q m p e q => ?_⟩
  unfold notBD at e
  split at e
  · obtain ⟨x, y, rfl, h1, h2⟩ := p.two
    obtain rfl := h1.bl'
    obtain rfl := h2.bl'
    cases e
    exact ⟨_, _, rfl, rfl, q _ H (fun _ _ h => h) (.bl _)⟩
  · cases e
theorem op_powX : OpR X (binaryOp .Pow) (rI (fun i j => 0 ≤ j ∧ j ≤ 1000 ∧ i.natAbs < 2 ^ 1000) fun i j => .int (i ^ j.toNat)) := opI fun i j _ _ _ _ _ hc q => by
  refine pow_int hc.1 ?_ q
  have b : Builtin.Int.intBits i ≤ 1000 := PyProof.Rows.intBits_le hc.2.2
  have b' : (Builtin.Int.intBits i : Int) ≤ 1000 := by omega
  have h1 : (Builtin.Int.intBits i : Int) * j ≤ 1000 * j := Int.mul_le_mul_of_nonneg_right b' hc.1
  have h2 : (2 : Int) ^ 27 = 134217728 := by decide
  rw [h2]
  have := hc.2.1
  omega
theorem pow_ok : Op2 X (binaryOp .Pow) powD := by
  refine ⟨_, op_powX, fun M H xs ds d Q m p e q => ?_⟩
  unfold powD at e
  split at e
  · split at e
    · rename_i hc
      obtain ⟨x, y, rfl, h1, h2⟩ := p.two
      obtain rfl := h1.int'
      obtain rfl := h2.int'
      cases e
      exact ⟨_, _, rfl, rfl, hc, q _ H (fun _ _ h => h) (.int _)⟩
    · cases e
  · cases e
end
end MP

set_option maxRecDepth 100000
namespace MP
open PySem PySem.Spec PyProof.Rows L2

/-! ## len(set(ints)) -/
def dedup : List Int → List Int → List Int
  | acc, [] => acc
  | acc, n :: ns => dedup (if acc.any (· == n) then acc else acc ++ [n]) ns
def lenSetD : List D → Option D
  | [.list ds] => (asInts ds).bind fun ns => if ns.length ≤ 4000 then some (.int ((dedup [] ns).length : Nat)) else none
  | _ => none
theorem dedup_foldl : ∀ (ns acc : List Int), dedup acc ns = ns.foldl PyProof.Rows.step_dedup acc
  | [], _ => rfl
  | n :: ns, acc => by
    unfold dedup
    rw [dedup_foldl ns, List.foldl_cons]
    rfl
theorem firstMet_dedup (ns : List Int) : PyProof.Rows.firstMet (fun i => ns.getD i 0) ns.length = dedup [] ns := by
  unfold PyProof.Rows.firstMet
  rw [dedup_foldl]
  congr 1
  apply List.ext_getElem
  · simp
  · intro i h1 h2
    simp at h1 ⊢
    rw [List.getElem?_eq_getElem h1]; rfl
theorem dedup_len : ∀ (ns acc : List Int), (dedup acc ns).length ≤ acc.length + ns.length
  | [], acc => by simp [dedup]
  | n :: ns, acc => by
    unfold dedup
    split
    · have := dedup_len ns acc
      simp; omega
    · have := dedup_len ns (acc ++ [n])
      simp at this ⊢; omega
section
variable {X : Cx} {a : Expr} {A : AF} {p p2 q pos : Pos}
def rLenSet (K : FragK) : List V → Hp → VK → Prop := fun xs H Q => match xs with
  | [x] => ∃ (l : Addr) (ns : List Int), x = .ref l ∧ SqL K H l (ns.map V.int) ∧ ns.length ≤ 4000 ∧ Q (.int ((dedup [] ns).length : Nat)) H
  | _ => False
theorem pe_lenSetA {ta : TE} (hc : X.calm = true) (hg : Gl X "len") (hm : X.mg "len" = none) (hg2 : Gl X "set") (hm2 : X.mg "set" = none) (ha : PE X a ta) (na : starEach [a] X.env = (false, eval a X.env) :: starEach [] X.env) :
    PE X (.Call (.Name "len" p) [.Call (.Name "set" p2) [a] [] q] [] pos) (fun σ H Q => ta σ H fun x H1 => rLenSet X.K [x] H1 Q) := by
  refine ⟨fun pins s σ H Q I h => ?_⟩
  refine Call_ (ld_blt I hg hm PySem.boot_len ?_)
  refine PyProof.Rows.callWith_builtin1 (PyProof.Rows.args_cons ?_ rfl) rfl rfl
  refine Call_ (ld_blt I hg2 hm2 PyProof.Rows.boot_set ?_)
  refine PyProof.Rows.callWith_type1 (PyProof.Rows.args_cons (thn (ha.run pins s σ H _ I h) fun v s1 ⟨x, H1, I1, r1, q1⟩ => PyProof.Rows.args_nil ?_) na) na rfl
  obtain ⟨l, ns, rfl, hq, hl, q1⟩ := q1
  cases r1
  obtain ⟨its, r, pl, hz⟩ := I1.list hq
  have hlen : its.toArray.size = ns.length := by rw [List.size_toArray, ← r.length, List.length_map]
  refine call_set_list (I1.ok.hd hc) pl.isList (ns := ns) (by simpa using intsAre_of r) (by rw [hlen]; unfold scanBound; omega) fun h' tk hS hk => ?_
  refine PyProof.Rows.args_nil ?_
  rw [hlen, firstMet_dedup] at hS
  obtain ⟨o, es, ep, t, ho, hex, hd, _, _, _, hf, hn⟩ := hS
  have I2 : Inv X pins σ H1 { s1 with heap := h', toks := tk } := I1.kept fun b o e => hk b o (Heap.lt_size e) e
  have hz := dedup_len ns []
  refine call_len_set ho hex hd hf (by rw [hn]; simp at hz; omega) ⟨.int ((dedup [] ns).length : Nat), H1, I2.tok _, ⟨_, by rw [hn]⟩, q1⟩
theorem lenSet_v {K : FragK} : VOk K (rLenSet K) lenSetD := by
  intro M H xs ds d Q m p e q
  unfold lenSetD at e
  split at e
  · obtain ⟨x, rfl, h⟩ := p.one
    obtain ⟨ns, e1, e2⟩ := Option.bind_eq_some_iff.mp e
    split at e2
    · cases e2
      obtain ⟨a, xs, rfl, h1, r⟩ := h.lst'
      rw [asInts_ok e1] at r
      have := r.ints
      subst this
      exact ⟨a, ns, rfl, h1.sq, by assumption, q _ H (fun _ _ h => h) (.int _)⟩
    · cases e2
  · cases e
theorem se_lenSet (hc : X.calm = true) (hm : X.mg "len" = none) (hm2 : X.mg "set" = none) (ha : SA X a A) (hg : Gl X "len" := by rfl) (hg2 : Gl X "set" := by rfl) (na : starEach [a] X.env = (false, eval a X.env) :: starEach [] X.env := by rfl) :
    SE X (.Call (.Name "len" p) [.Call (.Name "set" p2) [a] [] q] [] pos) (opN lenSetD [A]) :=
  pe_wk (pe_lenSetA hc hg hm hg2 hm2 ha na) fun σ H Q q => opN_ok lenSet_v σ H Q q
end

/-! ## list(range(a, b)) -/
def rngLD : List D → Option D
  | [.int a, .int b] => if (-rangeB ≤ a ∧ a < rangeB) ∧ (-rangeB ≤ b ∧ b < rangeB) ∧ (b - a).toNat ≤ sizeLine then some (.list (intsD a (b - a).toNat)) else none
  | _ => none
theorem vals_list {f : Nat → V} : ∀ {us : List Value} {n : Nat}, us.length = n → (∀ j v, us[j]? = some v → RelV (f j) v) → Vals ((List.range n).map f) us := by
  intro us
  induction us generalizing f with
  | nil => intro n h _; cases h; exact .nil
  | cons u us ih =>
    intro n h q
    cases h
    rw [List.length_cons, List.range_succ_eq_map, List.map_cons, List.map_map]
    exact .cons (q 0 u rfl) (ih (f := f ∘ Nat.succ) rfl fun j v e => q (j + 1) v (by simpa using e))
theorem rps_list {K : FragK} {M : AS} {H : Hp} (a : Int) (n : Nat) : Rps K M H ((List.range n).map fun i => V.int (a + (i : Nat))) (intsD a n) := by
  unfold intsD
  generalize List.range n = l
  induction l with
  | nil => exact .nil
  | cons i l ih => exact .cons (.int _) ih
def rRngL : List V → Hp → VK → Prop := fun xs H Q => ∃ i j : Int, xs = [.int i, .int j] ∧ ((-rangeB ≤ i ∧ i < rangeB) ∧ (-rangeB ≤ j ∧ j < rangeB) ∧ (j - i).toNat ≤ sizeLine) ∧
  ∀ l, H l = none → Q (.ref l) (upd H l (.lst ((List.range (j - i).toNat).map fun k => V.int (i + (k : Nat)))))
section
variable {X : Cx} {a b : Expr} {A B : AF} {p p2 q pos : Pos}
theorem pe_listRng {ta : TA} (hc : X.calm = true) (hg : Gl X "list") (hm : X.mg "list" = none) (hg2 : Gl X "range") (hm2 : X.mg "range" = none) (ha : PA X [a, b] ta) (hs : starEach [a, b] X.env = [(false, eval a X.env), (false, eval b X.env)]) (hs2 : starEach [b] X.env = [(false, eval b X.env)]) :
    PE X (.Call (.Name "list" p) [.Call (.Name "range" p2) [a, b] [] q] [] pos) (fun σ H Q => ta σ H fun xs H1 => rRngL xs H1 Q) := by
  refine ⟨fun pins s σ H Q I h => ?_⟩
  refine Call_ (ld_blt I hg hm PyProof.Rows.boot_list ?_)
  refine PyProof.Rows.callWith_type1 (PyProof.Rows.args_cons ?_ rfl) rfl rfl
  refine Call_ (ld_blt I hg2 hm2 boot_range (PyProof.Rows.callWith_type1 (thn (ha.run q pins s σ H _ I h) fun us s1 ⟨vs, H1, I1, r1, q1⟩ => ?_) (by rw [hs, hs2]) (by rw [hs2]; rfl)))
  obtain ⟨i, j, rfl, ⟨h1, h2, h3⟩, q1⟩ := q1
  cases r1 with
  | cons r rr =>
    cases rr with
    | cons r' rr =>
      cases rr
      obtain ⟨t, rfl⟩ := r
      obtain ⟨t', rfl⟩ := r'
      refine call_range_2 (PyProof.Rows.args_nil ?_)
      have hn : Builtin.Range.rangeSize i j 1 = (((j - i).toNat : Nat) : Int) := by rw [rangeSize_one]; split <;> omega
      refine call_list_range (I1.ok.hd hc) (IsRange.new ..) (small_one h1.1 h1.2 h2.1 h2.2) hn (by rw [sizeLine_eq] at h3; omega) fun h' tk acc c' hk hS hacc => ?_
      obtain ⟨hz, hit⟩ := hacc
      have rv : Vals ((List.range (j - i).toNat).map fun k => V.int (i + (k : Nat))) acc.toList := vals_list (by simpa using hz) fun n v e => by
        obtain ⟨t, rfl⟩ := hit n v (by simpa using e)
        exact ⟨t, by rw [Int.mul_one]⟩
      have hl : ((List.range (j - i).toNat).map fun k => V.int (i + (k : Nat))).length ≤ sizeLine := by simpa using h3
      refine ⟨.ref _, _, I1.laid (t' := tk) (a := (s1.heap.push _).objs.size) (o := .lst ((List.range (j - i).toNat).map fun k => V.int (i + (k : Nat)))) (fun b o e => hk b o (Heap.get?_push_of_some _ e)) (by rw [Heap.size_push]; exact Nat.le_succ _) ⟨hl, acc.toList, c', rv, by simpa using hS⟩, rfl, q1 _ (I1.hok.fresh (by rw [Heap.size_push]; exact Nat.le_succ _))⟩
theorem rngL_f {K : FragK} : FOk K rRngL rngLD := by
  intro M H xs ds d Q m p e q
  unfold rngLD at e
  split at e
  · split at e
    · rename_i hb
      obtain ⟨x, y, rfl, h1, h2⟩ := p.two
      obtain rfl := h1.int'
      obtain rfl := h2.int'
      cases e
      exact ⟨_, _, rfl, hb, fun l hl => q l H _ (fun _ _ h => h) (same_upd hl) hl (new_lst (rps_list _ _))⟩
    · cases e
  · cases e
theorem sf_listRng (hc : X.calm = true) (hm : X.mg "list" = none) (hm2 : X.mg "range" = none) (ha : SA X a A) (hb : SA X b B) (hg : Gl X "list" := by rfl) (hg2 : Gl X "range" := by rfl) (hs : starEach [a, b] X.env = [(false, eval a X.env), (false, eval b X.env)] := by rfl) (hs2 : starEach [b] X.env = [(false, eval b X.env)] := by rfl) :
    SF X (.Call (.Name "list" p) [.Call (.Name "range" p2) [a, b] [] q] [] pos) (opN rngLD [A, B]) :=
  pe_wk (pe_listRng hc hg hm hg2 hm2 (sas_cons ha (sas_cons hb sas_nil hs2) (by rw [hs, hs2])) hs hs2) fun σ H Q q => opF_ok rngL_f σ H Q q
end
end MP

set_option maxRecDepth 100000
namespace MP
open PySem PySem.Spec PyProof.Rows L2

theorem bt_int : bootBuiltins "int" = some (.type Ty.int.name) := by kernel_rfl
theorem bt_bool : bootBuiltins "bool" = some (.type Ty.bool.name) := by kernel_rfl
theorem bt_str : bootBuiltins "str" = some (.type Ty.str.name) := by kernel_rfl
theorem bt_tuple : bootBuiltins "tuple" = some (.type Ty.tup.name) := by kernel_rfl
theorem bt_list : bootBuiltins "list" = some (.type Ty.lst.name) := by kernel_rfl
theorem bt_dict : bootBuiltins "dict" = some (.type Ty.dct.name) := by kernel_rfl
theorem bt_len : bootBuiltins "len" = some (.builtin "len") := by kernel_rfl
theorem bt_abs : bootBuiltins "abs" = some (.builtin "abs") := by kernel_rfl
theorem bt_sum : bootBuiltins "sum" = some (.builtin "sum") := by kernel_rfl
theorem bt_all : bootBuiltins "all" = some (.builtin "all") := by kernel_rfl
theorem bt_any : bootBuiltins "any" = some (.builtin "any") := by kernel_rfl
theorem bt_max : bootBuiltins "max" = some (.builtin "max") := by kernel_rfl
theorem bt_min : bootBuiltins "min" = some (.builtin "min") := by kernel_rfl
theorem bt_sorted : bootBuiltins "sorted" = some (.builtin "sorted") := by kernel_rfl

/-! ## xs.append(e) -/
def appD : D → D → Option D
  | .list ds, d => if ds.length < sizeLine then some (.list (ds ++ [d])) else none
  | _, _ => none
theorem appD_ok {c d c' : D} (h : appD c d = some c') : ∃ ds, c = .list ds ∧ ds.length < sizeLine ∧ c' = .list (ds ++ [d]) := by
  unfold appD at h
  split at h
  · split at h
    · cases h
      exact ⟨_, rfl, by assumption, rfl⟩
    · cases h
  · cases h
def appM (k : Nat) (f : ME) : MS := fun ρ => (rd ρ k).bind fun c0 => if isTy .lst c0 = true then (f ρ).bind fun x => (updC k (fun c => appD c x.1) x.2).bind fun ρ1 => some (.nx ρ1) else none
section
variable {X : Cx}
theorem ss_append {x : Str} {e : Expr} {i : Nat} {f : ME} {p apos cpos pos : Pos} (he : SE X e f) (hN : X.N[i]? = some x := by rfl) (hv : Vis X.env.scope x := by first | exact Or.inl rfl | exact Or.inr (Or.inl rfl) | exact Or.inr (Or.inr rfl))
    (hd : (x == ("__debug__" : Str)) = false := by decide) (hcd : (x == ("__classdict__" : Str)) = false := by decide)
    (hbase : attributeBase (.Name x p) "append" X.env (eval (.Name x p) X.env) = eval (.Name x p) X.env := by rfl)
    (hfew : ((backTo cpos (starEach [e] X.env)).all (fun x => !x.1) && (backToKw cpos (keywordEach [] X.env)).all (fun x => x.1.isSome)
      && decide ([e].length + ([] : List Keyword).length + (if ([] : List Keyword).isEmpty then 0 else 1) < 30)) = true := by rfl)
    (hline : (apos.endLine == cpos.line) = true := by rfl) (hs : starEach [e] X.env = (false, eval e X.env) :: starEach [] X.env := by rfl) (hplain : (backTo cpos (starEach [] X.env)).any (·.1) = false := by rfl)
    (hsw : swapsWith (.Call (.Attribute (.Name x p) "append" apos) [e] [] cpos) none pos.line X.env = pure false := by rfl) :
    SS X (.Expr (.Call (.Attribute (.Name x p) "append" apos) [e] [] cpos) pos) (appM i f) := by
  refine ps_wk (ps_expr (pe_bm PySem.F.plainAttrs_list PySem.F.slot_list_append PySem.F.type_list_append mt_append (pe_var hN hv hd hcd) (pa_cons he pa_nil hs) hbase hfew hline hs hplain) hsw) ?_
  rintro E σ H ⟨M0, W0, O, ρ, o, r, ev, q⟩
  simp only [appM, Option.bind_eq_some_iff] at ev
  obtain ⟨c0, e0, ev⟩ := ev
  split at ev
  · rename_i hty
    simp only [Option.bind_eq_some_iff] at ev
    obtain ⟨⟨d, ρ1⟩, e1, ρ2, e2, e3⟩ := ev
    cases e3
    obtain ⟨v, hv, rt⟩ := r.rd e0
    have ⟨ds0, hds⟩ : ∃ ds, c0 = .list ds := by
      cases c0 with
      | list ds => exact ⟨ds, rfl⟩
      | _ => cases hty
    subst hds
    obtain ⟨a0, xs0, rfl, hx0, _⟩ := rt.lst'
    refine ⟨_, hv, .inl ⟨rfl, xs0, hx0.sq⟩, M0, W0, O, ρ, d, ρ1, r, e1, fun w H1 O1 r1 x1 p1 => ?_⟩
    obtain ⟨a, c, c', hs', w', eg, up⟩ := r1.updAt e2
    rw [hv] at hs'; cases hs'
    have ma : mm M0 O1 a0 := by
      unfold updC at e2
      split at e2
      · rename_i c0 hk
        obtain ⟨b, hb, ob, _⟩ := r1.own i _ hk
        rw [hv] at hb; cases hb
        exact .inr ob
      · rename_i c0 hk
        obtain ⟨b, hb, ob, _⟩ := r1.io i _ hk
        rw [hv] at hb; cases hb
        exact .inl (r1.wsub _ ob)
      · cases e2
    have eg' : appD c d = some c' := eg
    obtain ⟨ds1, rfl, hl, rfl⟩ := appD_ok eg'
    cases w' with
    | lst e rr =>
      obtain ⟨r2, x2⟩ := up (.lst _) (.lst upd_same ((rr.append (.cons p1 .nil)).stab fun b ob hb hm => ⟨(upd_ne (show b ≠ a0 from fun z => hm (z ▸ ma))).trans hb, hm⟩))
      exact ⟨a0, _, w, rfl, rfl, e, by rw [rr.length]; exact hl, q σ _ O1 r2 (x1.trans x2)⟩
  · cases ev
end

/-! ## a, b, c = x, y, z -/
def parM3 (i j l : Nat) (f g h : ME) : MS := fun ρ => (f ρ).bind fun x => (g x.2).bind fun y => (h y.2).bind fun z => some (.nx (((z.2.set i (.sh x.1)).set j (.sh y.1)).set l (.sh z.1)))
section
variable {X : Cx} {pos : Pos}
theorem ss_par3 {i j l : Nat} {x y z : Str} {a b c : Expr} {f g h : ME} {px py pz pt : Pos} {kt k2 : Nat} {pt2 : Pos} (hc : X.calm = true) (hN : X.N.Nodup) (hi : X.N[i]? = some x) (hj : X.N[j]? = some y) (hl : X.N[l]? = some z) (hij : i ≠ j) (hil : i ≠ l) (hjl : j ≠ l)
    (hx : X.env.scope.names.lookup x = some .local) (hy : X.env.scope.names.lookup y = some .local) (hz : X.env.scope.names.lookup z = some .local) (ha : SVs X [a, b, c] [f, g, h])
    (hw : swappedStores [.Tuple [.Name x px, .Name y py, .Name z pz] kt pt] (.Tuple [a, b, c] k2 pt2) X.env = pure (some [x, y, z]))
    (hs : swapsWithSole [.Tuple [.Name x px, .Name y py, .Name z pz] kt pt] (.Tuple [a, b, c] k2 pt2) pos.line X.env = pure false := by rfl) :
    SS X (.Assign [.Tuple [.Name x px, .Name y py, .Name z pz] kt pt] (.Tuple [a, b, c] k2 pt2) pos) (parM3 i j l f g h) := by
  refine ps_wk (ps_par3 hc hN hi hj hl hij hil hjl hx hy hz ha hw hs) ?_
  rintro E σ H ⟨M0, W0, O, ρ, o, r, ev, q⟩
  simp only [parM3, Option.bind_eq_some_iff] at ev
  obtain ⟨⟨d, ρ1⟩, e1, ⟨d2, ρ2⟩, e2, ⟨d3, ρ3⟩, e3, e4⟩ := ev
  cases e4
  refine vals_ok (ds := [d, d2, d3]) (ρ' := ρ3) r (by simp only [evV, e1, e2, e3, Option.bind_some]) fun xs H1 O1 r1 x1 p1 => ?_
  cases p1 with
  | cons p p1 => cases p1 with
    | cons p2 p1 => cases p1 with
      | cons p3 p1 => cases p1; exact ⟨_, _, _, rfl, q _ H1 O1 (((r1.setSh p).setSh p2).setSh p3) x1⟩
end

/-! ## a block's names, by reckoning -/
def blkB (N : List Str) (sc scope : Scope) (own : List (Str × Nat)) : Bool :=
  (scope.kind == .function) && (scope.names.all fun y => scope.names.lookup y.1 == some y.2) && (own.all fun p => N[p.2]? == some p.1) &&
  (scope.names.all fun y => !(y.2 == .free) || (sc.names.lookup y.1 == some .cell) || (sc.names.lookup y.1 == some .free)) &&
  (scope.names.all fun y => !((y.2 == .local) || (y.2 == .cell)) || (own.any fun p => p.1 == y.1) || !(N.any fun z => z == y.1))
theorem blkB_ok {N : List Str} {sc scope : Scope} {own : List (Str × Nat)} (h : blkB N sc scope own = true) : BlkOk N sc scope own := by
  simp only [blkB, Bool.and_eq_true, List.all_eq_true, Bool.or_eq_true, Bool.not_eq_true', beq_iff_eq, List.any_eq_true, List.any_eq_false] at h
  obtain ⟨⟨⟨⟨h1, h2⟩, h3⟩, h4⟩, h5⟩ := h
  refine ⟨h1, h2, h3, fun y hy e => ?_, fun y hy e => ?_⟩
  · rcases h4 y hy with (z | z) | z
    · rw [e] at z; exact absurd z (by decide)
    · exact .inl z
    · exact .inr z
  · rcases h5 y hy with (z | ⟨p, hp, z⟩) | z
    · rcases e with e | e <;> (rw [e] at z; exact absurd z (by decide))
    · exact .inl (List.mem_map.mpr ⟨p, hp, z⟩)
    · exact .inr fun hm => z _ hm rfl

theorem fnG_none {P : Program} {w : World} {K : FragK} {mg : Str → Option Value} {base : Heap} {k : Nat} {f : Addr} {fd : FuncData} {ps : List Str} : FnG P w K mg base k f fd ps (spA K fun _ => none) :=
  ⟨fun vs H Q ⟨M, ds, d, _, _, e, _⟩ => (by cases e), fun A outer s H args us vs Q _ _ _ _ _ ⟨M, ds, d, _, _, e, _⟩ => (by cases e)⟩
end MP

set_option maxRecDepth 100000
namespace MP
open PySem PySem.Spec PyProof.Rows L2

/-! ## evaluation, from the left: each rule takes one step, what comes behind waits in a K-form -/
def kseq (b : MS) : Out → Option Out
  | .nx ρ => b ρ
  | o => some o
theorem x_seq (a b : MS) (ρ : Env') : seqM a b ρ = (a ρ).bind (kseq b) := by
  unfold seqM kseq
  rfl
theorem x_seq1 (b : MS) (ρ : Env') : kseq b (.nx ρ) = b ρ := id rfl
theorem x_seq2 (b : MS) (d : D) (ρ : Env') : kseq b (.rt d ρ) = some (.rt d ρ) := id rfl
theorem x_seq3 (b : MS) (d : D) (ρ : Env') : kseq b (.rf d ρ) = some (.rf d ρ) := id rfl
theorem x_seq4 (b : MS) (ρ : Env') : kseq b (.bk ρ) = some (.bk ρ) := id rfl
theorem x_seq5 (b : MS) (ρ : Env') : kseq b (.ct ρ) = some (.ct ρ) := id rfl
def kasg (k : Nat) : D × Env' → Option Out := fun x => some (.nx (x.2.set k (.sh x.1)))
theorem x_asg (k : Nat) (f : ME) (ρ : Env') : asgM k f ρ = (f ρ).bind (kasg k) := id rfl
theorem x_asg1 (k : Nat) (d : D) (ρ : Env') : kasg k (d, ρ) = some (.nx (ρ.set k (.sh d))) := id rfl
def kasgF (k : Nat) : D × Env' → Option Out := fun x => some (.nx (x.2.set k (.own x.1)))
theorem x_asgF (k : Nat) (f : ME) (ρ : Env') : asgF k f ρ = (f ρ).bind (kasgF k) := id rfl
theorem x_asgF1 (k : Nat) (d : D) (ρ : Env') : kasgF k (d, ρ) = some (.nx (ρ.set k (.own d))) := id rfl
def kexp : D × Env' → Option Out := fun x => some (.nx x.2)
theorem x_exp (f : ME) (ρ : Env') : exprM f ρ = (f ρ).bind kexp := id rfl
theorem x_exp1 (d : D) (ρ : Env') : kexp (d, ρ) = some (.nx ρ) := id rfl
def kret : D × Env' → Option Out := fun x => some (.rt x.1 x.2)
theorem x_ret (f : ME) (ρ : Env') : retM f ρ = (f ρ).bind kret := id rfl
theorem x_ret1 (d : D) (ρ : Env') : kret (d, ρ) = some (.rt d ρ) := id rfl
def kretF : D × Env' → Option Out := fun x => some (.rf x.1 x.2)
theorem x_retF (f : ME) (ρ : Env') : retF f ρ = (f ρ).bind kretF := id rfl
theorem x_retF1 (d : D) (ρ : Env') : kretF (d, ρ) = some (.rf d ρ) := id rfl
theorem x_retN (ρ : Env') : retN ρ = some (.rt .none ρ) := id rfl
theorem x_skip (ρ : Env') : skipM ρ = some (.nx ρ) := id rfl
theorem x_brk (ρ : Env') : brkM ρ = some (.bk ρ) := id rfl
theorem x_cnt (ρ : Env') : cntM ρ = some (.ct ρ) := id rfl
def kif (a b : MS) : Bool × Env' → Option Out := fun x => if x.1 = true then a x.2 else b x.2
theorem x_if (c : MT) (a b : MS) (ρ : Env') : ifM c a b ρ = (c ρ).bind (kif a b) := id rfl
theorem x_if1 (a b : MS) (ρ : Env') : kif a b (true, ρ) = a ρ := id rfl
theorem x_if2 (a b : MS) (ρ : Env') : kif a b (false, ρ) = b ρ := id rfl
def kand (t : MT) : Bool × Env' → Option (Bool × Env') := fun x => if x.1 = true then t x.2 else some (false, x.2)
def kor (t : MT) : Bool × Env' → Option (Bool × Env') := fun x => if x.1 = true then some (true, x.2) else t x.2
def knot : Bool × Env' → Option (Bool × Env') := fun x => some (!x.1, x.2)
theorem x_and (s t : MT) (ρ : Env') : andT s t ρ = (s ρ).bind (kand t) := id rfl
theorem x_and1 (t : MT) (ρ : Env') : kand t (true, ρ) = t ρ := id rfl
theorem x_and2 (t : MT) (ρ : Env') : kand t (false, ρ) = some (false, ρ) := id rfl
theorem x_or (s t : MT) (ρ : Env') : orT s t ρ = (s ρ).bind (kor t) := id rfl
theorem x_or1 (t : MT) (ρ : Env') : kor t (true, ρ) = some (true, ρ) := id rfl
theorem x_or2 (t : MT) (ρ : Env') : kor t (false, ρ) = t ρ := id rfl
theorem x_not (s : MT) (ρ : Env') : notT s ρ = (s ρ).bind knot := id rfl
theorem x_not1 (b : Bool) (ρ : Env') : knot (b, ρ) = some (!b, ρ) := id rfl
def kbool : D × Env' → Option (Bool × Env') := fun x => match x.1 with
  | .bool b => some (b, x.2)
  | _ => none
theorem x_bool (f : ME) (ρ : Env') : boolT f ρ = (f ρ).bind kbool := id rfl
theorem x_bool1 (b : Bool) (ρ : Env') : kbool (.bool b, ρ) = some (b, ρ) := id rfl
def kandV (g : ME) : D × Env' → Option (D × Env') := fun x => match x.1 with
  | .bool true => g x.2
  | .bool false => some (.bool false, x.2)
  | _ => none
def korV (g : ME) : D × Env' → Option (D × Env') := fun x => match x.1 with
  | .bool true => some (.bool true, x.2)
  | .bool false => g x.2
  | _ => none
def knotV : D × Env' → Option (D × Env') := fun x => match x.1 with
  | .bool b => some (.bool (!b), x.2)
  | _ => none
theorem x_andV (f g : ME) (ρ : Env') : andV f g ρ = (f ρ).bind (kandV g) := id rfl
theorem x_andV1 (g : ME) (ρ : Env') : kandV g (.bool true, ρ) = g ρ := id rfl
theorem x_andV2 (g : ME) (ρ : Env') : kandV g (.bool false, ρ) = some (.bool false, ρ) := id rfl
theorem x_orV (f g : ME) (ρ : Env') : orV f g ρ = (f ρ).bind (korV g) := id rfl
theorem x_orV1 (g : ME) (ρ : Env') : korV g (.bool true, ρ) = some (.bool true, ρ) := id rfl
theorem x_orV2 (g : ME) (ρ : Env') : korV g (.bool false, ρ) = g ρ := id rfl
theorem x_notV (f : ME) (ρ : Env') : notV f ρ = (f ρ).bind knotV := id rfl
theorem x_notV1 (b : Bool) (ρ : Env') : knotV (.bool b, ρ) = some (.bool (!b), ρ) := id rfl
def kifV (f g : ME) : Bool × Env' → Option (D × Env') := fun x => if x.1 = true then f x.2 else g x.2
theorem x_ifV (t : MT) (f g : ME) (ρ : Env') : ifV t f g ρ = (t ρ).bind (kifV f g) := id rfl
theorem x_ifV1 (f g : ME) (ρ : Env') : kifV f g (true, ρ) = f ρ := id rfl
theorem x_ifV2 (f g : ME) (ρ : Env') : kifV f g (false, ρ) = g ρ := id rfl
theorem x_cE (d : D) (ρ : Env') : cE d ρ = some (d, ρ) := id rfl
def knm (ρ : Env') (k : Nat) : Option Cell → Option (D × Env')
  | some (.sh d) => some (d, ρ)
  | some (.own d) => some (d, ρ.set k (.sh d))
  | _ => none
theorem x_nm (k : Nat) (ρ : Env') : nameV k ρ = knm ρ k ρ[k]? := by
  unfold nameV knm
  cases ρ[k]? with
  | none => rfl
  | some c => cases c <;> rfl
theorem x_nm1 (ρ : Env') (k : Nat) (d : D) : knm ρ k (some (.sh d)) = some (d, ρ) := id rfl
theorem x_nm2 (ρ : Env') (k : Nat) (d : D) : knm ρ k (some (.own d)) = some (d, ρ.set k (.sh d)) := id rfl
def krd : Option Cell → Option D
  | some (.sh d) => some d
  | some (.own d) => some d
  | some (.io d) => some d
  | _ => none
theorem x_rd (ρ : Env') (k : Nat) : rd ρ k = krd ρ[k]? := by
  unfold rd krd
  cases ρ[k]? with
  | none => rfl
  | some c => cases c <;> rfl
theorem x_rd1 (d : D) : krd (some (.sh d)) = some d := id rfl
theorem x_rd2 (d : D) : krd (some (.own d)) = some d := id rfl
theorem x_rd3 (d : D) : krd (some (.io d)) = some d := id rfl
/-! arguments -/
def kcons (d : D) : List D × Env' → Option (List D × Env') := fun y => some (d :: y.1, y.2)
def kev (r : List AF) : D × Env' → Option (List D × Env') := fun x => (evA r x.2).bind (kcons x.1)
def kpk (k : Nat) : List D × Env' → Option (List D × Env') := fun y => (rd y.2 k).bind fun d => some (d :: y.1, y.2)
def kpk0 (k : Nat) (r : List AF) (ρ : Env') : D → Option (List D × Env') := fun _ => (evA r ρ).bind (kpk k)
theorem x_ev0 (ρ : Env') : evA [] ρ = some ([], ρ) := id rfl
theorem x_ev (f : ME) (r : List AF) (ρ : Env') : evA (.v f :: r) ρ = (f ρ).bind (kev r) := id rfl
theorem x_ev1 (r : List AF) (d : D) (ρ : Env') : kev r (d, ρ) = (evA r ρ).bind (kcons d) := id rfl
theorem x_ev2 (d : D) (ds : List D) (ρ : Env') : kcons d (ds, ρ) = some (d :: ds, ρ) := id rfl
theorem x_pk (k : Nat) (r : List AF) (ρ : Env') : evA (.p k :: r) ρ = (rd ρ k).bind (kpk0 k r ρ) := id rfl
theorem x_pk1 (k : Nat) (r : List AF) (ρ : Env') (d : D) : kpk0 k r ρ d = (evA r ρ).bind (kpk k) := id rfl
def kpk2 (ds : List D) (ρ : Env') : D → Option (List D × Env') := fun d => some (d :: ds, ρ)
theorem x_pk2 (k : Nat) (ds : List D) (ρ : Env') : kpk k (ds, ρ) = (rd ρ k).bind (kpk2 ds ρ) := id rfl
theorem x_pk3 (ds : List D) (ρ : Env') (d : D) : kpk2 ds ρ d = some (d :: ds, ρ) := id rfl
def kvv (r : List ME) : D × Env' → Option (List D × Env') := fun x => (evV r x.2).bind (kcons x.1)
theorem x_vv0 (ρ : Env') : evV [] ρ = some ([], ρ) := id rfl
theorem x_vv (f : ME) (r : List ME) (ρ : Env') : evV (f :: r) ρ = (f ρ).bind (kvv r) := id rfl
theorem x_vv1 (r : List ME) (d : D) (ρ : Env') : kvv r (d, ρ) = (evV r ρ).bind (kcons d) := id rfl
def kop (f : List D → Option D) : List D × Env' → Option (D × Env') := fun x => (f x.1).bind fun d => some (d, x.2)
def kop1 (ρ : Env') : D → Option (D × Env') := fun d => some (d, ρ)
theorem x_op (f : List D → Option D) (as : List AF) (ρ : Env') : opN f as ρ = (evA as ρ).bind (kop f) := id rfl
theorem x_op1 (f : List D → Option D) (ds : List D) (ρ : Env') : kop f (ds, ρ) = (f ds).bind (kop1 ρ) := id rfl
theorem x_op2 (ρ : Env') (d : D) : kop1 ρ d = some (d, ρ) := id rfl
theorem x_ca (f : List D → Option D) (fs : List ME) (ρ : Env') : callA f fs ρ = (evV fs ρ).bind (kop f) := id rfl
theorem x_ck (f : List D → Option D) (idx : List Nat) (fs : List ME) (ρ : Env') : callK f idx fs ρ = (evV fs ρ).bind (kop fun ds => f (pick idx ds)) := id rfl
def kci (sem : D → List D → Option (D × D)) (k : Nat) : List D × Env' → Option (D × Env') := fun x => match x.2[k]? with
  | some (.own c) => (sem c x.1).bind fun y => some (y.1, x.2.set k (.own y.2))
  | some (.io c) => (sem c x.1).bind fun y => some (y.1, x.2.set k (.io y.2))
  | _ => none
def kci0 (sem : D → List D → Option (D × D)) (k : Nat) (fs : List ME) (ρ : Env') : D → Option (D × Env') := fun _ => (evV fs ρ).bind (kci sem k)
def kci1 (sem : D → List D → Option (D × D)) (k : Nat) (ds : List D) (ρ : Env') : Option Cell → Option (D × Env')
  | some (.own c) => (sem c ds).bind fun y => some (y.1, ρ.set k (.own y.2))
  | some (.io c) => (sem c ds).bind fun y => some (y.1, ρ.set k (.io y.2))
  | _ => none
def kciO (ρ : Env') (k : Nat) : D × D → Option (D × Env') := fun y => some (y.1, ρ.set k (.own y.2))
def kciI (ρ : Env') (k : Nat) : D × D → Option (D × Env') := fun y => some (y.1, ρ.set k (.io y.2))
theorem x_ci (sem : D → List D → Option (D × D)) (k : Nat) (fs : List ME) (ρ : Env') : callI sem k fs ρ = (rd ρ k).bind (kci0 sem k fs ρ) := id rfl
theorem x_ci0 (sem : D → List D → Option (D × D)) (k : Nat) (fs : List ME) (ρ : Env') (d : D) : kci0 sem k fs ρ d = (evV fs ρ).bind (kci sem k) := id rfl
theorem x_ci1 (sem : D → List D → Option (D × D)) (k : Nat) (ds : List D) (ρ : Env') : kci sem k (ds, ρ) = kci1 sem k ds ρ ρ[k]? := by
  unfold kci kci1
  cases ρ[k]? with
  | none => rfl
  | some c => cases c <;> rfl
theorem x_ci2 (sem : D → List D → Option (D × D)) (k : Nat) (ds : List D) (ρ : Env') (c : D) : kci1 sem k ds ρ (some (.own c)) = (sem c ds).bind (kciO ρ k) := id rfl
theorem x_ci3 (sem : D → List D → Option (D × D)) (k : Nat) (ds : List D) (ρ : Env') (c : D) : kci1 sem k ds ρ (some (.io c)) = (sem c ds).bind (kciI ρ k) := id rfl
theorem x_ci4 (ρ : Env') (k : Nat) (d c : D) : kciO ρ k (d, c) = some (d, ρ.set k (.own c)) := id rfl
theorem x_ci5 (ρ : Env') (k : Nat) (d c : D) : kciI ρ k (d, c) = some (d, ρ.set k (.io c)) := id rfl
def ktup : List D × Env' → Option (D × Env') := fun x => some (.tuple x.1, x.2)
def klst : List D × Env' → Option (D × Env') := fun x => some (.list x.1, x.2)
theorem x_tup (fs : List ME) (ρ : Env') : tupV fs ρ = (evV fs ρ).bind ktup := id rfl
theorem x_tup1 (ds : List D) (ρ : Env') : ktup (ds, ρ) = some (.tuple ds, ρ) := id rfl
theorem x_lst (fs : List ME) (ρ : Env') : lstV fs ρ = (evV fs ρ).bind klst := id rfl
theorem x_lst1 (ds : List D) (ρ : Env') : klst (ds, ρ) = some (.list ds, ρ) := id rfl
/-! chains -/
def kch (f g : List D → Option D) (b c : ME) : D × Env' → Option (D × Env') := fun x => (b x.2).bind fun y => (f [x.1, y.1]).bind fun z => match z with
  | .bool true => (c y.2).bind fun w => (g [y.1, w.1]).bind fun d => some (d, w.2)
  | .bool false => some (.bool false, y.2)
  | _ => none
def kch1 (f g : List D → Option D) (c : ME) (d : D) : D × Env' → Option (D × Env') := fun y => (f [d, y.1]).bind fun z => match z with
  | .bool true => (c y.2).bind fun w => (g [y.1, w.1]).bind fun d => some (d, w.2)
  | .bool false => some (.bool false, y.2)
  | _ => none
def kch2 (g : List D → Option D) (c : ME) (e : D) (ρ : Env') : D → Option (D × Env') := fun z => match z with
  | .bool true => (c ρ).bind fun w => (g [e, w.1]).bind fun d => some (d, w.2)
  | .bool false => some (.bool false, ρ)
  | _ => none
def kch3 (g : List D → Option D) (e : D) : D × Env' → Option (D × Env') := fun w => (g [e, w.1]).bind fun d => some (d, w.2)
theorem x_ch (f g : List D → Option D) (a b c : ME) (ρ : Env') : chainV f g a b c ρ = (a ρ).bind (kch f g b c) := id rfl
theorem x_ch1 (f g : List D → Option D) (b c : ME) (d : D) (ρ : Env') : kch f g b c (d, ρ) = (b ρ).bind (kch1 f g c d) := id rfl
theorem x_ch2 (f g : List D → Option D) (c : ME) (d e : D) (ρ : Env') : kch1 f g c d (e, ρ) = (f [d, e]).bind (kch2 g c e ρ) := id rfl
theorem x_ch3 (g : List D → Option D) (c : ME) (e : D) (ρ : Env') : kch2 g c e ρ (.bool true) = (c ρ).bind (kch3 g e) := id rfl
theorem x_ch4 (g : List D → Option D) (c : ME) (e : D) (ρ : Env') : kch2 g c e ρ (.bool false) = some (.bool false, ρ) := id rfl
theorem x_ch5 (g : List D → Option D) (e d : D) (ρ : Env') : kch3 g e (d, ρ) = (g [e, d]).bind (kop1 ρ) := id rfl
/-! targets, assignments -/
def kasgT (t : MG) : D × Env' → Option Out := fun x => (t x.1 x.2).bind fun ρ1 => some (.nx ρ1)
def knx : Env' → Option Out := fun ρ => some (.nx ρ)
theorem x_asgT (f : ME) (t : MG) (ρ : Env') : asgT f t ρ = (f ρ).bind (kasgT t) := id rfl
theorem x_asgT1 (t : MG) (d : D) (ρ : Env') : kasgT t (d, ρ) = (t d ρ).bind knx := id rfl
theorem x_nx (ρ : Env') : knx ρ = some (.nx ρ) := id rfl
def kpar (i j : Nat) (g : ME) : D × Env' → Option Out := fun x => (g x.2).bind fun y => some (.nx ((y.2.set i (.sh x.1)).set j (.sh y.1)))
def kpar1 (i j : Nat) (d : D) : D × Env' → Option Out := fun y => some (.nx ((y.2.set i (.sh d)).set j (.sh y.1)))
theorem x_par (i j : Nat) (f g : ME) (ρ : Env') : parM i j f g ρ = (f ρ).bind (kpar i j g) := id rfl
theorem x_par1 (i j : Nat) (g : ME) (d : D) (ρ : Env') : kpar i j g (d, ρ) = (g ρ).bind (kpar1 i j d) := id rfl
theorem x_par2 (i j : Nat) (d e : D) (ρ : Env') : kpar1 i j d (e, ρ) = some (.nx ((ρ.set i (.sh d)).set j (.sh e))) := id rfl
def kpar3 (i j l : Nat) (g h : ME) : D × Env' → Option Out := fun x => (g x.2).bind fun y => (h y.2).bind fun z => some (.nx (((z.2.set i (.sh x.1)).set j (.sh y.1)).set l (.sh z.1)))
def kpar31 (i j l : Nat) (h : ME) (d : D) : D × Env' → Option Out := fun y => (h y.2).bind fun z => some (.nx (((z.2.set i (.sh d)).set j (.sh y.1)).set l (.sh z.1)))
def kpar32 (i j l : Nat) (d e : D) : D × Env' → Option Out := fun z => some (.nx (((z.2.set i (.sh d)).set j (.sh e)).set l (.sh z.1)))
theorem x_par3 (i j l : Nat) (f g h : ME) (ρ : Env') : parM3 i j l f g h ρ = (f ρ).bind (kpar3 i j l g h) := id rfl
theorem x_par31 (i j l : Nat) (g h : ME) (d : D) (ρ : Env') : kpar3 i j l g h (d, ρ) = (g ρ).bind (kpar31 i j l h d) := id rfl
theorem x_par32 (i j l : Nat) (h : ME) (d e : D) (ρ : Env') : kpar31 i j l h d (e, ρ) = (h ρ).bind (kpar32 i j l d e) := id rfl
theorem x_par33 (i j l : Nat) (d e c : D) (ρ : Env') : kpar32 i j l d e (c, ρ) = some (.nx (((ρ.set i (.sh d)).set j (.sh e)).set l (.sh c))) := id rfl
theorem x_tn (k : Nat) (d : D) (ρ : Env') : tgName k d ρ = some (ρ.set k (.sh d)) := id rfl
theorem x_t0 (ρ : Env') : tgNil [] ρ = some ρ := id rfl
theorem x_tc (t : MG) (u : List D → Env' → Option Env') (d : D) (r : List D) (ρ : Env') : tgCons t u (d :: r) ρ = (t d ρ).bind (u r) := id rfl
theorem x_tt (n : Nat) (u : List D → Env' → Option Env') (ds : List D) (ρ : Env') (h : ds.length = n) : tgTup n u (.tuple ds) ρ = u ds ρ := if_pos h
def kts (k : Nat) (d : D) : D × Env' → Option Env' := fun x => updC k (fun c => putAt c x.1 d) x.2
def kts0 (k : Nat) (f : ME) (d : D) (ρ : Env') : D → Option Env' := fun _ => (f ρ).bind (kts k d)
def kup (k : Nat) (g : D → Option D) (ρ : Env') : Option Cell → Option Env'
  | some (.own c) => (g c).map fun c' => ρ.set k (.own c')
  | some (.io c) => (g c).map fun c' => ρ.set k (.io c')
  | _ => none
theorem x_ts (k : Nat) (f : ME) (d : D) (ρ : Env') : tgSet k f d ρ = (rd ρ k).bind (kts0 k f d ρ) := id rfl
theorem x_ts0 (k : Nat) (f : ME) (d e : D) (ρ : Env') : kts0 k f d ρ e = (f ρ).bind (kts k d) := id rfl
theorem x_ts1 (k : Nat) (d e : D) (ρ : Env') : kts k d (e, ρ) = kup k (fun c => putAt c e d) ρ ρ[k]? := by
  unfold kts kup updC
  cases ρ[k]? with
  | none => rfl
  | some c => cases c <;> rfl
def kupO (ρ : Env') (k : Nat) : D → Option Env' := fun c => some (ρ.set k (.own c))
def kupI (ρ : Env') (k : Nat) : D → Option Env' := fun c => some (ρ.set k (.io c))
theorem x_up1 (k : Nat) (g : D → Option D) (ρ : Env') (c : D) : kup k g ρ (some (.own c)) = (g c).bind (kupO ρ k) := by
  show (g c).map _ = _
  cases g c <;> rfl
theorem x_up2 (k : Nat) (g : D → Option D) (ρ : Env') (c : D) : kup k g ρ (some (.io c)) = (g c).bind (kupI ρ k) := by
  show (g c).map _ = _
  cases g c <;> rfl
theorem x_upO (ρ : Env') (k : Nat) (c : D) : kupO ρ k c = some (ρ.set k (.own c)) := id rfl
theorem x_upI (ρ : Env') (k : Nat) (c : D) : kupI ρ k c = some (ρ.set k (.io c)) := id rfl
def kapp (k : Nat) : D × Env' → Option Out := fun x => (updC k (fun c => appD c x.1) x.2).bind fun ρ1 => some (.nx ρ1)
def kapp0 (k : Nat) (f : ME) (ρ : Env') : D → Option Out := fun c0 => if isTy .lst c0 = true then (f ρ).bind (kapp k) else none
theorem x_app (k : Nat) (f : ME) (ρ : Env') : appM k f ρ = (rd ρ k).bind (kapp0 k f ρ) := id rfl
theorem x_app0 (k : Nat) (f : ME) (ρ : Env') (ds : List D) : kapp0 k f ρ (.list ds) = (f ρ).bind (kapp k) := id rfl
theorem x_app1 (k : Nat) (d : D) (ρ : Env') : kapp k (d, ρ) = (kup k (fun c => appD c d) ρ ρ[k]?).bind knx := by
  unfold kapp kup updC knx
  cases ρ[k]? with
  | none => rfl
  | some c => cases c <;> rfl
/-! walks -/
def kfor (t : MG) (b : MS) : List D × Env' → Option Out := fun x => forL t b x.1 x.2
theorem x_for (it : MI) (t : MG) (b : MS) (ρ : Env') : forM' it t b ρ = (it ρ).bind (kfor t b) := id rfl
theorem x_for1 (t : MG) (b : MS) (ds : List D) (ρ : Env') : kfor t b (ds, ρ) = forL t b ds ρ := id rfl
def kforR (t : MG) (b : MS) (r : List D) : Out → Option Out
  | .nx ρ2 => forL t b r ρ2
  | .ct ρ2 => forL t b r ρ2
  | .bk ρ2 => some (.nx ρ2)
  | o => some o
def kforB (t : MG) (b : MS) (r : List D) : Env' → Option Out := fun ρ1 => (b ρ1).bind (kforR t b r)
theorem x_fl0 (t : MG) (b : MS) (ρ : Env') : forL t b [] ρ = some (.nx ρ) := id rfl
theorem x_fl (t : MG) (b : MS) (d : D) (r : List D) (ρ : Env') : forL t b (d :: r) ρ = (t d ρ).bind (kforB t b r) := by
  rw [forL]
  unfold kforB kforR
  rfl
theorem x_fl1 (t : MG) (b : MS) (r : List D) (ρ : Env') : kforB t b r ρ = (b ρ).bind (kforR t b r) := id rfl
theorem x_fl2 (t : MG) (b : MS) (r : List D) (ρ : Env') : kforR t b r (.nx ρ) = forL t b r ρ := id rfl
theorem x_fl3 (t : MG) (b : MS) (r : List D) (ρ : Env') : kforR t b r (.ct ρ) = forL t b r ρ := id rfl
theorem x_fl4 (t : MG) (b : MS) (r : List D) (ρ : Env') : kforR t b r (.bk ρ) = some (.nx ρ) := id rfl
theorem x_fl5 (t : MG) (b : MS) (r : List D) (d : D) (ρ : Env') : kforR t b r (.rt d ρ) = some (.rt d ρ) := id rfl
theorem x_fl6 (t : MG) (b : MS) (r : List D) (d : D) (ρ : Env') : kforR t b r (.rf d ρ) = some (.rf d ρ) := id rfl
/-- one turn of a for, no end -/
def turn (t : MG) (b : MS) (d : D) : MS := fun ρ => (t d ρ).bind b
theorem forL_turn {t : MG} {b : MS} {d : D} {r : List D} {ρ : Env'} : forL t b (d :: r) ρ = (turn t b d ρ).bind (kforR t b r) := by
  rw [x_fl]
  unfold turn
  cases t d ρ <;> rfl
theorem x_turn (t : MG) (b : MS) (d : D) (ρ : Env') : turn t b d ρ = (t d ρ).bind b := id rfl
/-- an invariant of a for that goes through -/
theorem forL_inv {t : MG} {b : MS} (P : Nat → Env' → Prop) : ∀ (ds : List D) (i : Nat) (ρ : Env'), P i ρ → (∀ (j : Nat) (d : D) (ρ : Env'), ds[j]? = some d → P (i + j) ρ → ∃ ρ', (turn t b d ρ = some (.nx ρ') ∨ turn t b d ρ = some (.ct ρ')) ∧ P (i + j + 1) ρ') →
    ∃ ρ', forL t b ds ρ = some (.nx ρ') ∧ P (i + ds.length) ρ'
  | [], i, ρ, h, _ => ⟨ρ, rfl, h⟩
  | d :: r, i, ρ, h, s => by
    obtain ⟨ρ1, e1, h1⟩ := s 0 d ρ rfl h
    obtain ⟨ρ2, e2, h2⟩ := forL_inv P r (i + 1) ρ1 h1 fun j d' ρ' hd hp => by
      have := s (j + 1) d' ρ' (by simpa using hd) (by rwa [show i + (j + 1) = i + 1 + j by omega])
      rwa [show i + (j + 1) + 1 = i + 1 + j + 1 by omega] at this
    refine ⟨ρ2, ?_, by rw [List.length_cons]; rwa [show i + (r.length + 1) = i + 1 + r.length by omega]⟩
    rw [forL_turn]
    rcases e1 with e1 | e1
    · rw [e1, Option.bind_some, x_fl2, e2]
    · rw [e1, Option.bind_some, x_fl3, e2]
def kits : D × Env' → Option (List D × Env') := fun x => match x.1 with
  | .list ds => some (ds, x.2)
  | .tuple ds => some (ds, x.2)
  | .str z => some (z.cps.toList.map fun c => .str ⟨#[c]⟩, x.2)
  | _ => none
theorem x_its (f : ME) (ρ : Env') : itSeq f ρ = (f ρ).bind kits := id rfl
theorem x_its1 (ds : List D) (ρ : Env') : kits (.list ds, ρ) = some (ds, ρ) := id rfl
theorem x_its2 (ds : List D) (ρ : Env') : kits (.tuple ds, ρ) = some (ds, ρ) := id rfl
theorem x_its3 (z : Str) (ρ : Env') : kits (.str z, ρ) = some (z.cps.toList.map fun c => .str ⟨#[c]⟩, ρ) := id rfl
def krg1 : D × Env' → Option (List D × Env') := fun x => match x.1 with
  | .int j => if -rangeB ≤ j ∧ j < rangeB then some (intsD 0 j.toNat, x.2) else none
  | _ => none
theorem x_rg1 (f : ME) (ρ : Env') : itRng1 f ρ = (f ρ).bind krg1 := id rfl
theorem x_rg11 (j : Int) (ρ : Env') (h : -rangeB ≤ j ∧ j < rangeB) : krg1 (.int j, ρ) = some (intsD 0 j.toNat, ρ) := if_pos h
def krg2 (g : ME) : D × Env' → Option (List D × Env') := fun x => (g x.2).bind fun y => match x.1, y.1 with
  | .int i, .int j => if (-rangeB ≤ i ∧ i < rangeB) ∧ -rangeB ≤ j ∧ j < rangeB then some (intsD i (j - i).toNat, y.2) else none
  | _, _ => none
def krg21 (i : Int) : D × Env' → Option (List D × Env') := fun y => match y.1 with
  | .int j => if (-rangeB ≤ i ∧ i < rangeB) ∧ -rangeB ≤ j ∧ j < rangeB then some (intsD i (j - i).toNat, y.2) else none
  | _ => none
theorem x_rg2 (f g : ME) (ρ : Env') : itRng2 f g ρ = (f ρ).bind (krg2 g) := id rfl
theorem x_rg21 (g : ME) (i : Int) (ρ : Env') : krg2 g (.int i, ρ) = (g ρ).bind (krg21 i) := by
  unfold krg2 krg21
  cases g ρ with
  | none => rfl
  | some y =>
    obtain ⟨d, ρ1⟩ := y
    cases d <;> rfl
theorem x_rg22 (i j : Int) (ρ : Env') (h : (-rangeB ≤ i ∧ i < rangeB) ∧ -rangeB ≤ j ∧ j < rangeB) : krg21 i (.int j, ρ) = some (intsD i (j - i).toNat, ρ) := if_pos h
def ken : D × Env' → Option (List D × Env') := fun x => match x.1 with
  | .list ds => some (enumL 0 ds, x.2)
  | _ => none
theorem x_en (f : ME) (ρ : Env') : itEnum f ρ = (f ρ).bind ken := id rfl
theorem x_en1 (ds : List D) (ρ : Env') : ken (.list ds, ρ) = some (enumL 0 ds, ρ) := id rfl
def kzp (g : ME) : D × Env' → Option (List D × Env') := fun x => (g x.2).bind fun y => match x.1, y.1 with
  | .list ds, .list es => some (zipL ds es, y.2)
  | .tuple ds, .tuple es => some (zipL ds es, y.2)
  | _, _ => none
def kzp1 (d : D) : D × Env' → Option (List D × Env') := fun y => match d, y.1 with
  | .list ds, .list es => some (zipL ds es, y.2)
  | .tuple ds, .tuple es => some (zipL ds es, y.2)
  | _, _ => none
theorem x_zp (f g : ME) (ρ : Env') : itZip f g ρ = (f ρ).bind (kzp g) := id rfl
theorem x_zp1 (g : ME) (d : D) (ρ : Env') : kzp g (d, ρ) = (g ρ).bind (kzp1 d) := id rfl
theorem x_zp2 (ds es : List D) (ρ : Env') : kzp1 (.list ds) (.list es, ρ) = some (zipL ds es, ρ) := id rfl
theorem x_zp3 (ds es : List D) (ρ : Env') : kzp1 (.tuple ds) (.tuple es, ρ) = some (zipL ds es, ρ) := id rfl
/-! comprehensions -/
def stepL (t : MG) (c : MT) (f : ME) (vs : List Nat) (d : D) (ρ : Env') : Option (Option D × Env') := (t d ρ).bind fun ρ1 => (c ρ1).bind fun b => if b.1 = true then (f b.2).bind fun y => some (some y.1, wipeE y.2 vs) else some (none, wipeE b.2 vs)
def kst1 (f : ME) (vs : List Nat) : Bool × Env' → Option (Option D × Env') := fun b => if b.1 = true then (f b.2).bind fun y => some (some y.1, wipeE y.2 vs) else some (none, wipeE b.2 vs)
def kst0 (c : MT) (f : ME) (vs : List Nat) : Env' → Option (Option D × Env') := fun ρ => (c ρ).bind (kst1 f vs)
def kst2 (vs : List Nat) : D × Env' → Option (Option D × Env') := fun y => some (some y.1, wipeE y.2 vs)
theorem x_st (t : MG) (c : MT) (f : ME) (vs : List Nat) (d : D) (ρ : Env') : stepL t c f vs d ρ = (t d ρ).bind (kst0 c f vs) := id rfl
theorem x_st0 (c : MT) (f : ME) (vs : List Nat) (ρ : Env') : kst0 c f vs ρ = (c ρ).bind (kst1 f vs) := id rfl
theorem x_st1 (f : ME) (vs : List Nat) (ρ : Env') : kst1 f vs (true, ρ) = (f ρ).bind (kst2 vs) := id rfl
theorem x_st2 (f : ME) (vs : List Nat) (ρ : Env') : kst1 f vs (false, ρ) = some (none, wipeE ρ vs) := id rfl
theorem x_st3 (vs : List Nat) (d : D) (ρ : Env') : kst2 vs (d, ρ) = some (some d, wipeE ρ vs) := id rfl
theorem x_yes (ρ : Env') : yesT ρ = some (true, ρ) := id rfl
def optL : Option D → List D → List D
  | some d, r => d :: r
  | none, r => r
theorem compL_step {t : MG} {c : MT} {f : ME} {vs : List Nat} {d : D} {r : List D} {ρ : Env'} : compL t c f vs (d :: r) ρ = (stepL t c f vs d ρ).bind fun x => (compL t c f vs r x.2).bind fun z => some (optL x.1 z.1, z.2) := by
  rw [compL]
  unfold stepL
  cases t d ρ with
  | none => rfl
  | some ρ1 =>
    show ((c ρ1).bind _) = ((c ρ1).bind _).bind _
    cases c ρ1 with
    | none => rfl
    | some b =>
      obtain ⟨b, ρ2⟩ := b
      cases b with
      | false =>
        show compL t c f vs r (wipeE ρ2 vs) = (compL t c f vs r (wipeE ρ2 vs)).bind _
        cases compL t c f vs r (wipeE ρ2 vs) <;> rfl
      | true =>
        show ((f ρ2).bind _) = ((f ρ2).bind _).bind _
        cases f ρ2 <;> rfl
/-- what is reckoned for each item does not turn the slots -/
theorem compL_pure {t : MG} {c : MT} {f : ME} {vs : List Nat} {ρ : Env'} {g : D → Option D} : ∀ {ds : List D}, (∀ d ∈ ds, stepL t c f vs d ρ = some (g d, ρ)) → compL t c f vs ds ρ = some (ds.filterMap g, ρ)
  | [], _ => rfl
  | d :: r, h => by
    rw [compL_step, h d List.mem_cons_self, Option.bind_some]
    show ((compL t c f vs r ρ).bind _) = _
    rw [compL_pure fun e he => h e (List.mem_cons_of_mem _ he), Option.bind_some, List.filterMap_cons]
    cases g d <;> rfl
/-- .. or turns them, by an invariant -/
theorem compL_inv {t : MG} {c : MT} {f : ME} {vs : List Nat} (P : Nat → Env' → List D → Prop) : ∀ (ds : List D) (i : Nat) (ρ : Env') (acc : List D), P i ρ acc → (∀ (j : Nat) (d : D) (ρ : Env') (acc : List D), ds[j]? = some d → P (i + j) ρ acc → ∃ o ρ', stepL t c f vs d ρ = some (o, ρ') ∧ P (i + j + 1) ρ' (acc ++ optL o [])) →
    ∃ ys ρ', compL t c f vs ds ρ = some (ys, ρ') ∧ P (i + ds.length) ρ' (acc ++ ys)
  | [], i, ρ, acc, h, _ => ⟨[], ρ, rfl, by simpa using h⟩
  | d :: r, i, ρ, acc, h, s => by
    obtain ⟨o, ρ1, e1, h1⟩ := s 0 d ρ acc rfl h
    obtain ⟨ys, ρ2, e2, h2⟩ := compL_inv P r (i + 1) ρ1 (acc ++ optL o []) h1 fun j d' ρ' acc' hd hp => by
      have := s (j + 1) d' ρ' acc' (by simpa using hd) (by rwa [show i + (j + 1) = i + 1 + j by omega])
      rwa [show i + (j + 1) + 1 = i + 1 + j + 1 by omega] at this
    refine ⟨optL o ys, ρ2, ?_, ?_⟩
    · rw [compL_step, e1, Option.bind_some]
      show ((compL t c f vs r ρ1).bind _) = _
      rw [e2, Option.bind_some]
    · rw [List.length_cons, show i + (r.length + 1) = i + 1 + r.length by omega]
      cases o with
      | none => simpa [optL] using h2
      | some d => simpa [optL] using h2
def klc (vs : List Nat) (t : MG) (c : MT) (f : ME) : List D × Env' → Option (D × Env') := fun x => if x.1.length ≤ sizeLine ∧ okW x.2 vs = true then
    (compL t c f vs x.1 (wipeE x.2 vs)).bind fun y => some (.list y.1, restE x.2 y.2 vs)
  else none
def klc1 (vs : List Nat) (ρ : Env') : List D × Env' → Option (D × Env') := fun y => some (.list y.1, restE ρ y.2 vs)
theorem x_lc (it : MI) (vs : List Nat) (t : MG) (c : MT) (f : ME) (ρ : Env') : lcV it vs t c f ρ = (it ρ).bind (klc vs t c f) := id rfl
theorem x_lc1 (vs : List Nat) (t : MG) (c : MT) (f : ME) (ds : List D) (ρ : Env') (h1 : ds.length ≤ sizeLine) (h2 : okW ρ vs = true) : klc vs t c f (ds, ρ) = (compL t c f vs ds (wipeE ρ vs)).bind (klc1 vs ρ) := if_pos ⟨h1, h2⟩
theorem x_lc2 (vs : List Nat) (ρ : Env') (ys : List D) (ρ' : Env') : klc1 vs ρ (ys, ρ') = some (.list ys, restE ρ ρ' vs) := id rfl
/-! defs -/
def krunA : Out → Option D
  | .rt d _ => some d
  | .nx _ => some .none
  | _ => none
theorem x_semA (n m : Nat) (g : MS) (ds : List D) (h : ds.length = n) : semA n m g ds = (g (startE m ds)).bind krunA := by
  unfold semA
  rw [if_pos h]
  unfold runA
  cases g (startE m ds) with
  | none => rfl
  | some o => cases o <;> rfl
theorem x_rA1 (d : D) (ρ : Env') : krunA (.rt d ρ) = some d := id rfl
theorem x_rA2 (ρ : Env') : krunA (.nx ρ) = some .none := id rfl
def krunF : Out → Option D
  | .rf d _ => some d
  | _ => none
theorem x_semF (n m : Nat) (g : MS) (ds : List D) (h : ds.length = n) : semF n m g ds = (g (startE m ds)).bind krunF := by
  unfold semF
  rw [if_pos h]
  unfold runF
  cases g (startE m ds) with
  | none => rfl
  | some o => cases o <;> rfl
theorem x_rF1 (d : D) (ρ : Env') : krunF (.rf d ρ) = some d := id rfl
def krunI : Out → Option (D × D)
  | .rt d ρ => (ioAt ρ).map fun c => (d, c)
  | .nx ρ => (ioAt ρ).map fun c => (.none, c)
  | _ => none
theorem x_semI (n m : Nat) (g : MS) (c : D) (ds : List D) (h : ds.length = n) : semI n m g c ds = (g (.io c :: startE m ds)).bind krunI := by
  unfold semI
  rw [if_pos h]
  unfold runI
  cases g (.io c :: startE m ds) with
  | none => rfl
  | some o => cases o <;> rfl
theorem x_rI1 (d c : D) (ρ : Env') : krunI (.rt d (.io c :: ρ)) = some (d, c) := id rfl
theorem x_rI2 (c : D) (ρ : Env') : krunI (.nx (.io c :: ρ)) = some (.none, c) := id rfl
/-! while -/
noncomputable def kwhB (c : MT) (b : MS) : Out → Option Out
  | .nx ρ1 => whileM c b ρ1
  | .ct ρ1 => whileM c b ρ1
  | .bk ρ1 => some (.nx ρ1)
  | o => some o
noncomputable def kwh (c : MT) (b : MS) : Bool × Env' → Option Out := fun x => if x.1 = true then (b x.2).bind (kwhB c b) else some (.nx x.2)
theorem x_wh (c : MT) (b : MS) (ρ : Env') : whileM c b ρ = (c ρ).bind (kwh c b) := by
  rw [whileM_eq]
  unfold kwh kwhB
  rfl
theorem x_wh1 (c : MT) (b : MS) (ρ : Env') : kwh c b (true, ρ) = (b ρ).bind (kwhB c b) := id rfl
theorem x_wh2 (c : MT) (b : MS) (ρ : Env') : kwh c b (false, ρ) = some (.nx ρ) := id rfl
theorem x_wh3 (c : MT) (b : MS) (ρ : Env') : kwhB c b (.nx ρ) = whileM c b ρ := id rfl
theorem x_wh4 (c : MT) (b : MS) (ρ : Env') : kwhB c b (.bk ρ) = some (.nx ρ) := id rfl
theorem x_wh5 (c : MT) (b : MS) (d : D) (ρ : Env') : kwhB c b (.rt d ρ) = some (.rt d ρ) := id rfl
/-! ints, plainly -/
theorem o_add (i j : Int) : addD [.int i, .int j] = some (.int (i + j)) := id rfl
theorem o_sub (i j : Int) : subD [.int i, .int j] = some (.int (i - j)) := id rfl
theorem o_neg (i : Int) : negD [.int i] = some (.int (-i)) := id rfl
theorem o_mod {i j : Int} (h : 0 < j) : modD [.int i, .int j] = some (.int (i % j)) := if_pos h
theorem o_mul {i j : Int} (h : i.natAbs < mulB) (h' : j.natAbs < mulB) : mulD [.int i, .int j] = some (.int (i * j)) := by simp only [mulD, h, h', and_self, if_true]
theorem o_fdiv {i j : Int} (h : 0 < j) (h' : j.natAbs < divB) : fdivD [.int i, .int j] = some (.int (i / j)) := by simp only [fdivD, h, h', and_self, if_true]
theorem o_lt (i j : Int) : ltD [.int i, .int j] = some (.bool (decide (i < j))) := id rfl
theorem o_le (i j : Int) : leD [.int i, .int j] = some (.bool (decide (i ≤ j))) := id rfl
theorem o_gt (i j : Int) : gtD [.int i, .int j] = some (.bool (decide (i > j))) := id rfl
theorem o_ge (i j : Int) : geD [.int i, .int j] = some (.bool (decide (i ≥ j))) := id rfl
theorem beq_dec (i j : Int) : (i == j) = decide (i = j) := by
  by_cases h : i = j
  · subst h; simp
  · simp [h]
theorem o_eq (i j : Int) : eqD [.int i, .int j] = some (.bool (decide (i = j))) := by
  rw [← beq_dec]; rfl
theorem o_ne (i j : Int) : neD [.int i, .int j] = some (.bool (!decide (i = j))) := by
  rw [← beq_dec]; rfl
theorem o_eqB (i j : Bool) : eqD [.bool i, .bool j] = some (.bool (i == j)) := id rfl
theorem o_neB (i j : Bool) : neD [.bool i, .bool j] = some (.bool (!(i == j))) := id rfl
theorem o_int (i : Int) : intD [.int i] = some (.int i) := id rfl
theorem o_abs (i : Int) : absD [.int i] = some (.int i.natAbs) := id rfl
theorem o_max (i j : Int) : max2D [.int i, .int j] = some (.int (max i j)) := id rfl
theorem o_min (i j : Int) : min2D [.int i, .int j] = some (.int (min i j)) := id rfl
theorem o_lenL (ds : List D) : lenD [.list ds] = some (.int ds.length) := id rfl
theorem o_lenT (ds : List D) : lenD [.tuple ds] = some (.int ds.length) := id rfl
theorem o_ix0 (a : D) (r : List D) : ixD [.tuple (a :: r), .int 0] = some a := by
  simp only [ixD, L2.atI, L2.ixN, List.length_cons]
  rw [if_pos (by omega), if_pos (by omega)]; rfl
theorem o_ix1 (a b : D) (r : List D) : ixD [.tuple (a :: b :: r), .int 1] = some b := by
  simp only [ixD, L2.atI, L2.ixN, List.length_cons]
  rw [if_pos (by omega), if_pos (by omega)]; rfl
theorem o_ixl0 (a : D) (r : List D) : ixD [.list (a :: r), .int 0] = some a := by
  simp only [ixD, L2.atI, L2.ixN, List.length_cons]
  rw [if_pos (by omega), if_pos (by omega)]; rfl
theorem o_ixl1 (a b : D) (r : List D) : ixD [.list (a :: b :: r), .int 1] = some b := by
  simp only [ixD, L2.atI, L2.ixN, List.length_cons]
  rw [if_pos (by omega), if_pos (by omega)]; rfl
theorem o_ixl2 (a b c : D) (r : List D) : ixD [.list (a :: b :: c :: r), .int 2] = some c := by
  simp only [ixD, L2.atI, L2.ixN, List.length_cons]
  rw [if_pos (by omega), if_pos (by omega)]; rfl
theorem o_isi (T : Ty) (d : D) : isiD T [d] = some (.bool (isTy T d)) := id rfl
theorem o_isi2 (T U : Ty) (d : D) : isiD2 [T, U] [d] = some (.bool (isTy T d || (isTy U d || false))) := id rfl
theorem o_isN (d : D) : isND [d, .none] = some (.bool (isN d)) := id rfl
theorem o_notN (d : D) : notND [d, .none] = some (.bool (!isN d)) := id rfl
theorem o_isB (a b : Bool) : isBD [.bool a, .bool b] = some (.bool (a == b)) := id rfl
theorem o_notB (a b : Bool) : notBD [.bool a, .bool b] = some (.bool (a != b)) := id rfl
theorem x_A0 (m : Nat) (gg : MS) : semA 0 m gg [] = (gg (startE m [])).bind krunA := x_semA 0 m gg [] rfl
theorem x_F0 (m : Nat) (gg : MS) : semF 0 m gg [] = (gg (startE m [])).bind krunF := x_semF 0 m gg [] rfl
theorem x_I0 (m : Nat) (gg : MS) (z : D) : semI 0 m gg z [] = (gg (.io z :: startE m [])).bind krunI := x_semI 0 m gg z [] rfl
theorem x_A1 (m : Nat) (gg : MS) (a : D) : semA 1 m gg [a] = (gg (startE m [a])).bind krunA := x_semA 1 m gg [a] rfl
theorem x_F1 (m : Nat) (gg : MS) (a : D) : semF 1 m gg [a] = (gg (startE m [a])).bind krunF := x_semF 1 m gg [a] rfl
theorem x_I1 (m : Nat) (gg : MS) (z : D) (a : D) : semI 1 m gg z [a] = (gg (.io z :: startE m [a])).bind krunI := x_semI 1 m gg z [a] rfl
theorem x_A2 (m : Nat) (gg : MS) (a b : D) : semA 2 m gg [a, b] = (gg (startE m [a, b])).bind krunA := x_semA 2 m gg [a, b] rfl
theorem x_F2 (m : Nat) (gg : MS) (a b : D) : semF 2 m gg [a, b] = (gg (startE m [a, b])).bind krunF := x_semF 2 m gg [a, b] rfl
theorem x_I2 (m : Nat) (gg : MS) (z : D) (a b : D) : semI 2 m gg z [a, b] = (gg (.io z :: startE m [a, b])).bind krunI := x_semI 2 m gg z [a, b] rfl
theorem x_A3 (m : Nat) (gg : MS) (a b c : D) : semA 3 m gg [a, b, c] = (gg (startE m [a, b, c])).bind krunA := x_semA 3 m gg [a, b, c] rfl
theorem x_F3 (m : Nat) (gg : MS) (a b c : D) : semF 3 m gg [a, b, c] = (gg (startE m [a, b, c])).bind krunF := x_semF 3 m gg [a, b, c] rfl
theorem x_I3 (m : Nat) (gg : MS) (z : D) (a b c : D) : semI 3 m gg z [a, b, c] = (gg (.io z :: startE m [a, b, c])).bind krunI := x_semI 3 m gg z [a, b, c] rfl
theorem x_A4 (m : Nat) (gg : MS) (a b c d : D) : semA 4 m gg [a, b, c, d] = (gg (startE m [a, b, c, d])).bind krunA := x_semA 4 m gg [a, b, c, d] rfl
theorem x_F4 (m : Nat) (gg : MS) (a b c d : D) : semF 4 m gg [a, b, c, d] = (gg (startE m [a, b, c, d])).bind krunF := x_semF 4 m gg [a, b, c, d] rfl
theorem x_I4 (m : Nat) (gg : MS) (z : D) (a b c d : D) : semI 4 m gg z [a, b, c, d] = (gg (.io z :: startE m [a, b, c, d])).bind krunI := x_semI 4 m gg z [a, b, c, d] rfl
theorem x_A5 (m : Nat) (gg : MS) (a b c d e : D) : semA 5 m gg [a, b, c, d, e] = (gg (startE m [a, b, c, d, e])).bind krunA := x_semA 5 m gg [a, b, c, d, e] rfl
theorem x_F5 (m : Nat) (gg : MS) (a b c d e : D) : semF 5 m gg [a, b, c, d, e] = (gg (startE m [a, b, c, d, e])).bind krunF := x_semF 5 m gg [a, b, c, d, e] rfl
theorem x_I5 (m : Nat) (gg : MS) (z : D) (a b c d e : D) : semI 5 m gg z [a, b, c, d, e] = (gg (.io z :: startE m [a, b, c, d, e])).bind krunI := x_semI 5 m gg z [a, b, c, d, e] rfl
theorem x_A6 (m : Nat) (gg : MS) (a b c d e f : D) : semA 6 m gg [a, b, c, d, e, f] = (gg (startE m [a, b, c, d, e, f])).bind krunA := x_semA 6 m gg [a, b, c, d, e, f] rfl
theorem x_F6 (m : Nat) (gg : MS) (a b c d e f : D) : semF 6 m gg [a, b, c, d, e, f] = (gg (startE m [a, b, c, d, e, f])).bind krunF := x_semF 6 m gg [a, b, c, d, e, f] rfl
theorem x_I6 (m : Nat) (gg : MS) (z : D) (a b c d e f : D) : semI 6 m gg z [a, b, c, d, e, f] = (gg (.io z :: startE m [a, b, c, d, e, f])).bind krunI := x_semI 6 m gg z [a, b, c, d, e, f] rfl
theorem x_A7 (m : Nat) (gg : MS) (a b c d e f g : D) : semA 7 m gg [a, b, c, d, e, f, g] = (gg (startE m [a, b, c, d, e, f, g])).bind krunA := x_semA 7 m gg [a, b, c, d, e, f, g] rfl
theorem x_F7 (m : Nat) (gg : MS) (a b c d e f g : D) : semF 7 m gg [a, b, c, d, e, f, g] = (gg (startE m [a, b, c, d, e, f, g])).bind krunF := x_semF 7 m gg [a, b, c, d, e, f, g] rfl
theorem x_I7 (m : Nat) (gg : MS) (z : D) (a b c d e f g : D) : semI 7 m gg z [a, b, c, d, e, f, g] = (gg (.io z :: startE m [a, b, c, d, e, f, g])).bind krunI := x_semI 7 m gg z [a, b, c, d, e, f, g] rfl
theorem x_A8 (m : Nat) (gg : MS) (a b c d e f g h : D) : semA 8 m gg [a, b, c, d, e, f, g, h] = (gg (startE m [a, b, c, d, e, f, g, h])).bind krunA := x_semA 8 m gg [a, b, c, d, e, f, g, h] rfl
theorem x_F8 (m : Nat) (gg : MS) (a b c d e f g h : D) : semF 8 m gg [a, b, c, d, e, f, g, h] = (gg (startE m [a, b, c, d, e, f, g, h])).bind krunF := x_semF 8 m gg [a, b, c, d, e, f, g, h] rfl
theorem x_I8 (m : Nat) (gg : MS) (z : D) (a b c d e f g h : D) : semI 8 m gg z [a, b, c, d, e, f, g, h] = (gg (.io z :: startE m [a, b, c, d, e, f, g, h])).bind krunI := x_semI 8 m gg z [a, b, c, d, e, f, g, h] rfl
theorem x_wi0 (ρ : Env') : wipeE ρ [] = ρ := id rfl
theorem x_wi (ρ : Env') (v : Nat) (vs : List Nat) : wipeE ρ (v :: vs) = (wipeE ρ vs).set v .no := id rfl
def kre (r : Env') (v : Nat) : Option Cell → Env'
  | some c => r.set v c
  | none => r
theorem x_re0 (ρ ρ' : Env') : restE ρ ρ' [] = ρ' := id rfl
theorem x_re (ρ ρ' : Env') (v : Nat) (vs : List Nat) : restE ρ ρ' (v :: vs) = kre (restE ρ ρ' vs) v ρ[v]? := by
  rw [restE]
  unfold kre
  rfl
theorem x_re1 (r : Env') (v : Nat) (c : Cell) : kre r v (some c) = r.set v c := id rfl
def okC : Option Cell → Bool
  | some (.own _) => false
  | some (.io _) => false
  | _ => true
theorem x_ok0 (ρ : Env') : okW ρ [] = true := id rfl
theorem x_ok (ρ : Env') (v : Nat) (vs : List Nat) : okW ρ (v :: vs) = (okC ρ[v]? && okW ρ vs) := by
  unfold okW okC
  rfl
theorem x_ok1 : okC (some .no) = true := id rfl
theorem x_ok2 (d : D) : okC (some (.sh d)) = true := id rfl
theorem o_not0 (b : Bool) : (b == b) = true := by cases b <;> rfl
theorem x_g0 {α : Type} (a : α) (l : List α) : (a :: l)[0]? = some a := id rfl
theorem x_gS {α : Type} (a : α) (l : List α) (n : Nat) : (a :: l)[n + 1]? = l[n]? := by simp
theorem x_s0 {α : Type} (a b : α) (l : List α) : (a :: l).set 0 b = b :: l := id rfl
theorem x_sS {α : Type} (a b : α) (l : List α) (n : Nat) : (a :: l).set (n + 1) b = a :: l.set n b := id rfl
theorem x_bs {α β : Type} (a : α) (f : α → Option β) : (some a).bind f = f a := id rfl
theorem x_bn {α β : Type} (f : α → Option β) : (none : Option α).bind f = none := id rfl
theorem x_ms {α β : Type} (a : α) (f : α → β) : (some a).map f = some (f a) := id rfl
theorem x_isNnone : isN PyData.none = true := id rfl
theorem x_isNbool (b : Bool) : isN (.bool b) = false := id rfl
theorem x_isNint (i : Int) : isN (.int i) = false := id rfl
theorem x_isNstr (z : Str) : isN (.str z) = false := id rfl
theorem x_isNlist (ds : List D) : isN (.list ds) = false := id rfl
theorem x_isNtuple (ds : List D) : isN (.tuple ds) = false := id rfl
theorem x_isNdict (ds : List (D × D)) : isN (.dict ds) = false := id rfl
theorem x_tyintnone : isTy .int PyData.none = false := id rfl
theorem x_tyintbool (b : Bool) : isTy .int (.bool b) = true := id rfl
theorem x_tyintint (i : Int) : isTy .int (.int i) = true := id rfl
theorem x_tyintstr (z : Str) : isTy .int (.str z) = false := id rfl
theorem x_tyintlist (ds : List D) : isTy .int (.list ds) = false := id rfl
theorem x_tyinttuple (ds : List D) : isTy .int (.tuple ds) = false := id rfl
theorem x_tyintdict (ds : List (D × D)) : isTy .int (.dict ds) = false := id rfl
theorem x_tyboolnone : isTy .bool PyData.none = false := id rfl
theorem x_tyboolbool (b : Bool) : isTy .bool (.bool b) = true := id rfl
theorem x_tyboolint (i : Int) : isTy .bool (.int i) = false := id rfl
theorem x_tyboolstr (z : Str) : isTy .bool (.str z) = false := id rfl
theorem x_tyboollist (ds : List D) : isTy .bool (.list ds) = false := id rfl
theorem x_tybooltuple (ds : List D) : isTy .bool (.tuple ds) = false := id rfl
theorem x_tybooldict (ds : List (D × D)) : isTy .bool (.dict ds) = false := id rfl
theorem x_tystrnone : isTy .str PyData.none = false := id rfl
theorem x_tystrbool (b : Bool) : isTy .str (.bool b) = false := id rfl
theorem x_tystrint (i : Int) : isTy .str (.int i) = false := id rfl
theorem x_tystrstr (z : Str) : isTy .str (.str z) = true := id rfl
theorem x_tystrlist (ds : List D) : isTy .str (.list ds) = false := id rfl
theorem x_tystrtuple (ds : List D) : isTy .str (.tuple ds) = false := id rfl
theorem x_tystrdict (ds : List (D × D)) : isTy .str (.dict ds) = false := id rfl
theorem x_tytupnone : isTy .tup PyData.none = false := id rfl
theorem x_tytupbool (b : Bool) : isTy .tup (.bool b) = false := id rfl
theorem x_tytupint (i : Int) : isTy .tup (.int i) = false := id rfl
theorem x_tytupstr (z : Str) : isTy .tup (.str z) = false := id rfl
theorem x_tytuplist (ds : List D) : isTy .tup (.list ds) = false := id rfl
theorem x_tytuptuple (ds : List D) : isTy .tup (.tuple ds) = true := id rfl
theorem x_tytupdict (ds : List (D × D)) : isTy .tup (.dict ds) = false := id rfl
theorem x_tylstnone : isTy .lst PyData.none = false := id rfl
theorem x_tylstbool (b : Bool) : isTy .lst (.bool b) = false := id rfl
theorem x_tylstint (i : Int) : isTy .lst (.int i) = false := id rfl
theorem x_tylststr (z : Str) : isTy .lst (.str z) = false := id rfl
theorem x_tylstlist (ds : List D) : isTy .lst (.list ds) = true := id rfl
theorem x_tylsttuple (ds : List D) : isTy .lst (.tuple ds) = false := id rfl
theorem x_tylstdict (ds : List (D × D)) : isTy .lst (.dict ds) = false := id rfl
theorem x_tydctnone : isTy .dct PyData.none = false := id rfl
theorem x_tydctbool (b : Bool) : isTy .dct (.bool b) = false := id rfl
theorem x_tydctint (i : Int) : isTy .dct (.int i) = false := id rfl
theorem x_tydctstr (z : Str) : isTy .dct (.str z) = false := id rfl
theorem x_tydctlist (ds : List D) : isTy .dct (.list ds) = false := id rfl
theorem x_tydcttuple (ds : List D) : isTy .dct (.tuple ds) = false := id rfl
theorem x_tydctdict (ds : List (D × D)) : isTy .dct (.dict ds) = true := id rfl
theorem x_be0 : (true == true) = true := id rfl
theorem x_bn0 : (true != true) = false := id rfl
theorem x_be1 : (true == false) = false := id rfl
theorem x_bn1 : (true != false) = true := id rfl
theorem x_be2 : (false == true) = false := id rfl
theorem x_bn2 : (false != true) = true := id rfl
theorem x_be3 : (false == false) = true := id rfl
theorem x_bn3 : (false != false) = false := id rfl
end MP

set_option maxRecDepth 100000
set_option maxHeartbeats 0
namespace LW
open PySem PySem.Spec PyProof.Rows L2 MP
def top (i : Nat) : Stmt := PySem.Challenge.pw_stillrests_k79_whole_two_rests.main.body.getD i (.Pass ⟨0, 0, 0, 0⟩)
noncomputable def ce__law_same_1 (rec : List D → Option D) : ME :=
    (callA rec [(nameV 2), (nameV 3)])
noncomputable def g__law_same (rec : List D → Option D) : MS :=
    (seqM (ifM (boolT (opN (isiD2 [.lst, .tup]) [.p 1])) (seqM (ifM (orT (boolT (opN neD [.v (opN (isiD .lst) [.p 0]), .v (opN (isiD .lst) [.p 1])])) (boolT (opN neD [.v (opN (isiD .tup) [.p 0]), .v (opN (isiD .tup) [.p 1])]))) (seqM (retM (cE (.bool false)))
    skipM) skipM)
    (seqM (retM (andV (opN eqD [.v (opN lenD [.p 0]), .v (opN lenD [.p 1])]) (opN allD [.v (lcV (itZip (nameV 0) (nameV 1)) [2, 3] (tgTup 2 (tgCons (tgName 2) (tgCons (tgName 3) tgNil))) yesT (ce__law_same_1 rec))])))
    skipM)) skipM)
    (seqM (ifM (boolT (opN (isiD .str) [.p 1])) (seqM (retM (andV (opN (isiD .str) [.p 0]) (opN eqD [.p 0, .p 1])))
    skipM) skipM)
    (seqM (ifM (boolT (opN isND [.p 1, .v (cE .none)])) (seqM (retM (opN isND [.p 0, .v (cE .none)]))
    skipM) skipM)
    (seqM (retM (andV (opN (isiD .int) [.p 0]) (andV (opN eqD [.v (opN (isiD .bool) [.p 0]), .v (opN (isiD .bool) [.p 1])]) (opN eqD [.p 0, .p 1]))))
    skipM))))
noncomputable def sem__law_same : Nat → List D → Option D
  | 0 => fun _ => none
  | k + 1 => semA 2 2 (g__law_same (sem__law_same k))
theorem sc__law_same : FnScope ["found", "due", "one", "other"] ["found", "due"] (defScope (top 40)) := ⟨rfl, rfl, rfl, by decide +kernel, rfl, by decide +kernel, by decide +kernel⟩
theorem b__law_same {P : Program} {w : World} {K : FragK} {mg : Str → Option Value} {base : Heap} {k : Nat} {rec : List D → Option D} (m_isinstance : mg "isinstance" = none) (m_list : mg "list" = none) (m_tuple : mg "tuple" = none) (m_len : mg "len" = none) (m_zip : mg "zip" = none) (m_all : mg "all" = none) (m_str : mg "str" = none) (m_int : mg "int" = none) (m_bool : mg "bool" = none) (c__law_same : Cl P w K mg base k "_law_same" ["found", "due"] (spA K rec)) :
    BodyOk P w K mg base ["found", "due", "one", "other"] "_law_same" (defScope (top 40)) (defBody (top 40)) k (g__law_same rec) := by
  intro f cdv A outer s H hr hg
  have st : Sit (BodyCx P w K mg base ["found", "due", "one", "other"] "_law_same" (defScope (top 40)) f cdv A outer s H) k := ⟨hr, hg⟩
  exact (sss_cons (ss_if (sb_val (se_isi2 .lst .tup m_isinstance m_list m_tuple (sa_name (i := 1)) (hv := bt_list) (hv2 := bt_tuple))) (sss_cons (ss_if (sb_bool (sw_or (sb_cmp (ne_ok st.units) (SE.a (se_isi .lst m_isinstance m_list (sa_name (i := 0)) (hv := bt_list))) (SE.a (se_isi .lst m_isinstance m_list (sa_name (i := 1)) (hv := bt_list))) rfl) (sw_or1 (sb_cmp (ne_ok st.units) (SE.a (se_isi .tup m_isinstance m_tuple (sa_name (i := 0)) (hv := bt_tuple))) (SE.a (se_isi .tup m_isinstance m_tuple (sa_name (i := 1)) (hv := bt_tuple))) rfl)))) (sss_cons (ss_ret se_bl)
    sss_nil) sss_nil)
    (sss_cons (ss_ret (se_and (se_cmp (eq_ok st.units) (SE.a (se_callB len_ok rfl m_len bt_len (sas_cons (sa_name (i := 0)) sas_nil))) (SE.a (se_callB len_ok rfl m_len bt_len (sas_cons (sa_name (i := 1)) sas_nil))) rfl) (se_one (se_callB (all_ok rfl) rfl m_all bt_all (sas_cons (SE.a (SF.se (sf_lc (own := [("one", 2), ("other", 3)]) rfl sc__law_same.nd (si_zip rfl m_zip (se_name (i := 0)) (se_name (i := 1))) (blkB_ok (by kernel_rfl)) (by decide) (fun _ _ _ _ _ => (sg_tup rfl (sgs_cons (sg_name (i := 2) sc__law_same.nd rfl (by first | exact Or.inl rfl | exact Or.inr rfl)) (sgs_cons (sg_name (i := 3) sc__law_same.nd rfl (by first | exact Or.inl rfl | exact Or.inr rfl)) sgs_nil)))) (fun _ _ _ _ _ => sps_nil) (fun _ _ _ _ _ => (se_ca c__law_same (Sit.mk st.room st.gu) (svs_cons (se_name (i := 2)) (svs_cons (se_name (i := 3)) svs_nil)) (hj := Nat.le_refl _)))))) sas_nil)))))
    sss_nil)) sss_nil)
    (sss_cons (ss_if (sb_val (se_isi .str m_isinstance m_str (sa_name (i := 1)) (hv := bt_str))) (sss_cons (ss_ret (se_and (se_isi .str m_isinstance m_str (sa_name (i := 0)) (hv := bt_str)) (se_one (se_cmp (eq_ok st.units) (sa_name (i := 0)) (sa_name (i := 1)) rfl))))
    sss_nil) sss_nil)
    (sss_cons (ss_if (sb_cmp isN_ok (sa_name (i := 1)) (SE.a se_non) rfl) (sss_cons (ss_ret (se_cmp isN_ok (sa_name (i := 0)) (SE.a se_non) rfl))
    sss_nil) sss_nil)
    (sss_cons (ss_ret (se_and (se_isi .int m_isinstance m_int (sa_name (i := 0)) (hv := bt_int)) (se_and (se_cmp (eq_ok st.units) (SE.a (se_isi .bool m_isinstance m_bool (sa_name (i := 0)) (hv := bt_bool))) (SE.a (se_isi .bool m_isinstance m_bool (sa_name (i := 1)) (hv := bt_bool))) rfl) (se_one (se_cmp (eq_ok st.units) (sa_name (i := 0)) (sa_name (i := 1)) rfl)))))
    sss_nil))))
noncomputable def g__law_cell : MS :=
    (seqM (ifM (boolT (opN ltD [.p 1, .v (opN lenD [.p 0])])) (seqM (retM (opN ixD [.p 0, .p 1]))
    skipM) skipM)
    (seqM (retM (opN modD [.v (opN sumD [.v (opN (sl01 sliceD) [.p 0, .v (cE (.int 1))])]), .v (cE (.int 1000003))]))
    skipM))
noncomputable def sem__law_cell : List D → Option D := semA 2 0 g__law_cell
theorem sc__law_cell : FnScope ["script", "index"] ["script", "index"] (defScope (top 37)) := ⟨rfl, rfl, rfl, by decide +kernel, rfl, by decide +kernel, by decide +kernel⟩
theorem b__law_cell {P : Program} {w : World} {K : FragK} {mg : Str → Option Value} {base : Heap} (m_len : mg "len" = none) (m_sum : mg "sum" = none)  :
    BodyOk P w K mg base ["script", "index"] "_law_cell" (defScope (top 37)) (defBody (top 37)) 0 (g__law_cell) := by
  intro f cdv A outer s H hr hg
  have st : Sit (BodyCx P w K mg base ["script", "index"] "_law_cell" (defScope (top 37)) f cdv A outer s H) 0 := ⟨hr, hg⟩
  exact (sss_cons (ss_if (sb_cmp lt_ok (sa_name (i := 1)) (SE.a (se_callB len_ok rfl m_len bt_len (sas_cons (sa_name (i := 0)) sas_nil))) rfl) (sss_cons (ss_ret (se_ix (ix_ok st.units0) (sa_name (i := 0)) (sa_name (i := 1))))
    sss_nil) sss_nil)
    (sss_cons (ss_ret (se_bin mod_ok (SE.a (se_callB (sum_ok rfl) rfl m_sum bt_sum (sas_cons (SE.a (se_sl01 (sa_name (i := 0)) se_int)) sas_nil))) (SE.a se_int)))
    sss_nil))
noncomputable def g__law_generator : MS :=
    (seqM (asgM 2 (callA sem__law_cell [(nameV 0), (nameV 1)]))
    (seqM (retF (lstV [(opN modD [.v (opN intD [.v (opN max2D [.v (opN subD [.p 2, .v (opN powD [.v (cE (.int 10)), .v (cE (.int 18))])]), .v (cE (.int 0))])]), .v (opN powD [.v (opN powD [.v (cE (.int 10)), .v (cE (.int 60))]), .v (cE (.int 10))])]), (opN modD [.v (opN intD [.p 2]), .v (cE (.int 2147483647))]), (opN mulD [.v (cE (.int 1000)), .p 1])]))
    skipM))
noncomputable def sem__law_generator : List D → Option D := semF 2 1 g__law_generator
theorem sc__law_generator : FnScope ["script", "index", "seed"] ["script", "index"] (defScope (top 38)) := ⟨rfl, rfl, rfl, by decide +kernel, rfl, by decide +kernel, by decide +kernel⟩
theorem b__law_generator {P : Program} {w : World} {K : FragK} {mg : Str → Option Value} {base : Heap} (m_max : mg "max" = none) (m_int : mg "int" = none) (c__law_cell : Cl P w K mg base 1 "_law_cell" ["script", "index"] (spA K sem__law_cell)) :
    BodyOk P w K mg base ["script", "index", "seed"] "_law_generator" (defScope (top 38)) (defBody (top 38)) 1 (g__law_generator) := by
  intro f cdv A outer s H hr hg
  have st : Sit (BodyCx P w K mg base ["script", "index", "seed"] "_law_generator" (defScope (top 38)) f cdv A outer s H) 1 := ⟨hr, hg⟩
  exact (sss_cons (ss_set (i := 2) sc__law_generator.nd rfl (by first | exact Or.inl rfl | exact Or.inr rfl) (se_ca c__law_cell (Sit.mk st.room st.gu) (svs_cons (se_name (i := 0)) (svs_cons (se_name (i := 1)) svs_nil))))
    (sss_cons (ss_retF (sf_lst (svs_cons (se_bin mod_ok (SE.a (se_callT int_ok rfl m_int bt_int (sas_cons (SE.a (se_callB (max2_ok rfl) rfl m_max bt_max (sas_cons (SE.a (se_bin sub_ok (sa_name (i := 2)) (SE.a (se_bin pow_ok (SE.a se_int) (SE.a se_int))))) (sas_cons (SE.a se_int) sas_nil)))) sas_nil))) (SE.a (se_bin pow_ok (SE.a (se_bin pow_ok (SE.a se_int) (SE.a se_int))) (SE.a se_int)))) (svs_cons (se_bin mod_ok (SE.a (se_callT int_ok rfl m_int bt_int (sas_cons (sa_name (i := 2)) sas_nil))) (SE.a se_int)) (svs_cons (se_bin mul_ok (SE.a se_int) (sa_name (i := 1))) svs_nil)))))
    sss_nil))
noncomputable def g__law_hash : MS :=
    (seqM (asgM 2 (opN modD [.v (opN intD [.v (opN addD [.v (opN addD [.v (opN addD [.v (opN mulD [.p 0, .v (cE (.int 1140671))]), .v (opN mulD [.v (opN mulD [.v (cE (.int 27644437)), .p 1]), .p 1])]), .v (opN mulD [.v (cE (.int 131)), .p 1])]), .v (cE (.int 19))])]), .v (cE (.int 2147483629))]))
    (seqM (asgM 2 (opN modD [.v (opN intD [.v (opN addD [.v (opN addD [.v (opN mulD [.p 2, .p 2]), .v (opN mulD [.v (cE (.int 62089)), .p 1])]), .v (cE (.int 32416187))])]), .v (cE (.int 2147483587))]))
    (seqM (retM (opN modD [.v (opN intD [.v (opN mulD [.p 2, .v (cE (.int 48271))])]), .v (cE (.int 2147483647))]))
    skipM)))
noncomputable def sem__law_hash : List D → Option D := semA 2 1 g__law_hash
theorem sc__law_hash : FnScope ["seed", "index", "mixed"] ["seed", "index"] (defScope (top 35)) := ⟨rfl, rfl, rfl, by decide +kernel, rfl, by decide +kernel, by decide +kernel⟩
theorem b__law_hash {P : Program} {w : World} {K : FragK} {mg : Str → Option Value} {base : Heap} (m_int : mg "int" = none)  :
    BodyOk P w K mg base ["seed", "index", "mixed"] "_law_hash" (defScope (top 35)) (defBody (top 35)) 0 (g__law_hash) := by
  intro f cdv A outer s H hr hg
  have st : Sit (BodyCx P w K mg base ["seed", "index", "mixed"] "_law_hash" (defScope (top 35)) f cdv A outer s H) 0 := ⟨hr, hg⟩
  exact (sss_cons (ss_set (i := 2) sc__law_hash.nd rfl (by first | exact Or.inl rfl | exact Or.inr rfl) (se_bin mod_ok (SE.a (se_callT int_ok rfl m_int bt_int (sas_cons (SE.a (se_bin add_ok (SE.a (se_bin add_ok (SE.a (se_bin add_ok (SE.a (se_bin mul_ok (sa_name (i := 0)) (SE.a se_int))) (SE.a (se_bin mul_ok (SE.a (se_bin mul_ok (SE.a se_int) (sa_name (i := 1)))) (sa_name (i := 1)))))) (SE.a (se_bin mul_ok (SE.a se_int) (sa_name (i := 1)))))) (SE.a se_int))) sas_nil))) (SE.a se_int)))
    (sss_cons (ss_set (i := 2) sc__law_hash.nd rfl (by first | exact Or.inl rfl | exact Or.inr rfl) (se_bin mod_ok (SE.a (se_callT int_ok rfl m_int bt_int (sas_cons (SE.a (se_bin add_ok (SE.a (se_bin add_ok (SE.a (se_bin mul_ok (sa_name (i := 2)) (sa_name (i := 2)))) (SE.a (se_bin mul_ok (SE.a se_int) (sa_name (i := 1)))))) (SE.a se_int))) sas_nil))) (SE.a se_int)))
    (sss_cons (ss_ret (se_bin mod_ok (SE.a (se_callT int_ok rfl m_int bt_int (sas_cons (SE.a (se_bin mul_ok (sa_name (i := 2)) (SE.a se_int))) sas_nil))) (SE.a se_int)))
    sss_nil)))
noncomputable def fb__law_random_1 : MS :=
    (seqM (asgT (opN addD [.v (opN ixD [.p 0, .v (cE (.int 2))]), .v (cE (.int 1))]) (tgSet 0 (cE (.int 2))))
    (seqM (asgM 2 (opN addD [.v (opN mulD [.p 2, .v (cE (.int 2147483587))]), .v (callA sem__law_hash [(opN ixD [.p 0, .v (cE (.int 1))]), (opN ixD [.p 0, .v (cE (.int 2))])])]))
    skipM))
noncomputable def g__law_random : MS :=
    (seqM (ifM (boolT (opN gtD [.v (opN ixD [.p 0, .v (cE (.int 0))]), .v (cE (.int 0))])) (seqM (asgM 2 (opN modD [.v (opN intD [.v (opN ixD [.p 0, .v (cE (.int 0))])]), .p 1]))
    (seqM (asgT (opN fdivD [.v (opN ixD [.p 0, .v (cE (.int 0))]), .p 1]) (tgSet 0 (cE (.int 0))))
    (seqM (retM (nameV 2))
    skipM))) skipM)
    (seqM (asgM 2 (cE (.int 0)))
    (seqM (forM' (itRng1 (opN addD [.v (cE (.int 1)), .v (opN fdivD [.v (opN bitsD [.p 1]), .v (cE (.int 30))])])) (tgName 3) fb__law_random_1)
    (seqM (retM (opN modD [.v (opN intD [.p 2]), .p 1]))
    skipM))))
noncomputable def sem__law_random : D → List D → Option (D × D) := semI 1 2 g__law_random
theorem sc__law_random : FnScope ["generator", "bound", "drawn", "turn"] ["generator", "bound"] (defScope (top 36)) := ⟨rfl, rfl, rfl, by decide +kernel, rfl, by decide +kernel, by decide +kernel⟩
theorem b__law_random {P : Program} {w : World} {K : FragK} {mg : Str → Option Value} {base : Heap} (m_int : mg "int" = none) (m_range : mg "range" = none) (c__law_hash : Cl P w K mg base 1 "_law_hash" ["seed", "index"] (spA K sem__law_hash)) :
    BodyOk P w K mg base ["generator", "bound", "drawn", "turn"] "_law_random" (defScope (top 36)) (defBody (top 36)) 1 (g__law_random) := by
  intro f cdv A outer s H hr hg
  have st : Sit (BodyCx P w K mg base ["generator", "bound", "drawn", "turn"] "_law_random" (defScope (top 36)) f cdv A outer s H) 1 := ⟨hr, hg⟩
  exact (sss_cons (ss_if (sb_cmp gt_ok (SE.a (se_ix (ix_ok st.units0) (sa_name (i := 0)) (SE.a se_int))) (SE.a se_int) rfl) (sss_cons (ss_set (i := 2) sc__law_random.nd rfl (by first | exact Or.inl rfl | exact Or.inr rfl) (se_bin mod_ok (SE.a (se_callT int_ok rfl m_int bt_int (sas_cons (SE.a (se_ix (ix_ok st.units0) (sa_name (i := 0)) (SE.a se_int))) sas_nil))) (sa_name (i := 1))))
    (sss_cons (ss_asg (se_bin fdiv_ok (SE.a (se_ix (ix_ok st.units0) (sa_name (i := 0)) (SE.a se_int))) (sa_name (i := 1))) (sg_set st.units0 (sa_name (i := 0)) se_int))
    (sss_cons (ss_ret (se_name (i := 2)))
    sss_nil))) sss_nil)
    (sss_cons (ss_set (i := 2) sc__law_random.nd rfl (by first | exact Or.inl rfl | exact Or.inr rfl) se_int)
    (sss_cons (ss_for PassesOwn.never rfl (si_rng1 rfl m_range (se_bin add_ok (SE.a se_int) (SE.a (se_bin fdiv_ok (SE.a (se_bits (sa_name (i := 1)))) (SE.a se_int))))) (sg_name (i := 3) sc__law_random.nd rfl (by first | exact Or.inl rfl | exact Or.inr rfl)) (sss_cons (ss_asg (se_bin add_ok (SE.a (se_ix (ix_ok st.units0) (sa_name (i := 0)) (SE.a se_int))) (SE.a se_int)) (sg_set st.units0 (sa_name (i := 0)) se_int))
    (sss_cons (ss_set (i := 2) sc__law_random.nd rfl (by first | exact Or.inl rfl | exact Or.inr rfl) (se_bin add_ok (SE.a (se_bin mul_ok (sa_name (i := 2)) (SE.a se_int))) (SE.a (se_ca c__law_hash (Sit.mk st.room st.gu) (svs_cons (se_ix (ix_ok st.units0) (sa_name (i := 0)) (SE.a se_int)) (svs_cons (se_ix (ix_ok st.units0) (sa_name (i := 0)) (SE.a se_int)) svs_nil))))))
    sss_nil)))
    (sss_cons (ss_ret (se_bin mod_ok (SE.a (se_callT int_ok rfl m_int bt_int (sas_cons (sa_name (i := 2)) sas_nil))) (sa_name (i := 1))))
    sss_nil))))
noncomputable def g_is_whole : MS :=
    (seqM (retM (andV (opN (isiD .int) [.p 0]) (notV (opN (isiD .bool) [.p 0]))))
    skipM)
noncomputable def sem_is_whole : List D → Option D := semA 1 0 g_is_whole
theorem sc_is_whole : FnScope ["value"] ["value"] (defScope (top 6)) := ⟨rfl, rfl, rfl, by decide +kernel, rfl, by decide +kernel, by decide +kernel⟩
theorem b_is_whole {P : Program} {w : World} {K : FragK} {mg : Str → Option Value} {base : Heap} (m_isinstance : mg "isinstance" = none) (m_int : mg "int" = none) (m_bool : mg "bool" = none)  :
    BodyOk P w K mg base ["value"] "is_whole" (defScope (top 6)) (defBody (top 6)) 0 (g_is_whole) := by
  intro f cdv A outer s H hr hg
  have st : Sit (BodyCx P w K mg base ["value"] "is_whole" (defScope (top 6)) f cdv A outer s H) 0 := ⟨hr, hg⟩
  exact (sss_cons (ss_ret (se_and (se_isi .int m_isinstance m_int (sa_name (i := 0)) (hv := bt_int)) (se_one (se_not (se_isi .bool m_isinstance m_bool (sa_name (i := 0)) (hv := bt_bool))))))
    sss_nil)
noncomputable def g_is_rest : MS :=
    (seqM (ifM (orT (notT (boolT (opN (isiD .tup) [.p 0]))) (orT (boolT (opN neD [.v (opN lenD [.p 0]), .v (cE (.int 2))])) (orT (notT (boolT (callA sem_is_whole [(opN ixD [.p 0, .v (cE (.int 0))])]))) (notT (boolT (callA sem_is_whole [(opN ixD [.p 0, .v (cE (.int 1))])])))))) (seqM (retM (cE (.bool false)))
    skipM) skipM)
    (seqM (retM (orV (opN eqD [.v (opN ixD [.p 0, .v (cE (.int 1))]), .v (cE (.int 0))]) (chainV leD ltD (cE (.int 0)) (opN ixD [.p 0, .v (cE (.int 0))]) (opN ixD [.p 0, .v (cE (.int 1))]))))
    skipM))
noncomputable def sem_is_rest : List D → Option D := semA 1 0 g_is_rest
theorem sc_is_rest : FnScope ["value"] ["value"] (defScope (top 10)) := ⟨rfl, rfl, rfl, by decide +kernel, rfl, by decide +kernel, by decide +kernel⟩
theorem b_is_rest {P : Program} {w : World} {K : FragK} {mg : Str → Option Value} {base : Heap} (m_isinstance : mg "isinstance" = none) (m_tuple : mg "tuple" = none) (m_len : mg "len" = none) (c_is_whole : Cl P w K mg base 1 "is_whole" ["value"] (spA K sem_is_whole)) :
    BodyOk P w K mg base ["value"] "is_rest" (defScope (top 10)) (defBody (top 10)) 1 (g_is_rest) := by
  intro f cdv A outer s H hr hg
  have st : Sit (BodyCx P w K mg base ["value"] "is_rest" (defScope (top 10)) f cdv A outer s H) 1 := ⟨hr, hg⟩
  exact (sss_cons (ss_if (sb_bool (sw_or (sb_not (sb_val (se_isi .tup m_isinstance m_tuple (sa_name (i := 0)) (hv := bt_tuple)))) (sw_or (sb_cmp (ne_ok st.units) (SE.a (se_callB len_ok rfl m_len bt_len (sas_cons (sa_name (i := 0)) sas_nil))) (SE.a se_int) rfl) (sw_or (sb_not (sb_val (se_ca c_is_whole (Sit.mk st.room st.gu) (svs_cons (se_ix (ix_ok st.units0) (sa_name (i := 0)) (SE.a se_int)) svs_nil)))) (sw_or1 (sb_not (sb_val (se_ca c_is_whole (Sit.mk st.room st.gu) (svs_cons (se_ix (ix_ok st.units0) (sa_name (i := 0)) (SE.a se_int)) svs_nil))))))))) (sss_cons (ss_ret se_bl)
    sss_nil) sss_nil)
    (sss_cons (ss_ret (se_or (se_cmp (eq_ok st.units) (SE.a (se_ix (ix_ok st.units0) (sa_name (i := 0)) (SE.a se_int))) (SE.a se_int) rfl) (se_one (se_chain le_ok lt_ok se_int (se_ix (ix_ok st.units0) (sa_name (i := 0)) (SE.a se_int)) (se_ix (ix_ok st.units0) (sa_name (i := 0)) (SE.a se_int))))))
    sss_nil))
noncomputable def g_check_rest : MS :=
    (seqM (ifM (notT (boolT (callA sem_is_rest [(nameV 0)]))) (seqM nevM
    skipM) skipM)
    skipM)
noncomputable def sem_check_rest : List D → Option D := semA 1 0 g_check_rest
theorem sc_check_rest : FnScope ["rest"] ["rest"] (defScope (top 11)) := ⟨rfl, rfl, rfl, by decide +kernel, rfl, by decide +kernel, by decide +kernel⟩
theorem b_check_rest {P : Program} {w : World} {K : FragK} {mg : Str → Option Value} {base : Heap}  (c_is_rest : Cl P w K mg base 2 "is_rest" ["value"] (spA K sem_is_rest)) :
    BodyOk P w K mg base ["rest"] "check_rest" (defScope (top 11)) (defBody (top 11)) 2 (g_check_rest) := by
  intro f cdv A outer s H hr hg
  have st : Sit (BodyCx P w K mg base ["rest"] "check_rest" (defScope (top 11)) f cdv A outer s H) 2 := ⟨hr, hg⟩
  exact (sss_cons (ss_if (sb_not (sb_val (se_ca c_is_rest (Sit.mk st.room st.gu) (svs_cons (se_name (i := 0)) svs_nil)))) (sss_cons ss_never
    sss_nil) sss_nil)
    sss_nil)
noncomputable def g_check_two_rests : MS :=
    (seqM (exprM (callA sem_check_rest [(nameV 0)]))
    (seqM (exprM (callA sem_check_rest [(nameV 1)]))
    skipM))
noncomputable def sem_check_two_rests : List D → Option D := semA 2 0 g_check_two_rests
theorem sc_check_two_rests : FnScope ["rest", "other"] ["rest", "other"] (defScope (top 24)) := ⟨rfl, rfl, rfl, by decide +kernel, rfl, by decide +kernel, by decide +kernel⟩
theorem b_check_two_rests {P : Program} {w : World} {K : FragK} {mg : Str → Option Value} {base : Heap}  (c_check_rest : Cl P w K mg base 3 "check_rest" ["rest"] (spA K sem_check_rest)) :
    BodyOk P w K mg base ["rest", "other"] "check_two_rests" (defScope (top 24)) (defBody (top 24)) 3 (g_check_two_rests) := by
  intro f cdv A outer s H hr hg
  have st : Sit (BodyCx P w K mg base ["rest", "other"] "check_two_rests" (defScope (top 24)) f cdv A outer s H) 3 := ⟨hr, hg⟩
  exact (sss_cons (ss_expr (se_ca c_check_rest (Sit.mk st.room st.gu) (svs_cons (se_name (i := 0)) svs_nil)))
    (sss_cons (ss_expr (se_ca c_check_rest (Sit.mk st.room st.gu) (svs_cons (se_name (i := 1)) svs_nil)))
    sss_nil))
noncomputable def wc_common_step_1 : MT :=
    (boolT (opN gtD [.p 1, .v (cE (.int 0))]))
noncomputable def wb_common_step_2 : MS :=
    (seqM (parM 0 1 (nameV 1) (opN modD [.p 0, .p 1]))
    skipM)
noncomputable def g_common_step : MS :=
    (seqM (whileM wc_common_step_1 wb_common_step_2)
    (seqM (retM (nameV 0))
    skipM))
noncomputable def sem_common_step : List D → Option D := semA 2 0 g_common_step
theorem sc_common_step : FnScope ["one", "other"] ["one", "other"] (defScope (top 13)) := ⟨rfl, rfl, rfl, by decide +kernel, rfl, by decide +kernel, by decide +kernel⟩
theorem b_common_step {P : Program} {w : World} {K : FragK} {mg : Str → Option Value} {base : Heap}   :
    BodyOk P w K mg base ["one", "other"] "common_step" (defScope (top 13)) (defBody (top 13)) 0 (g_common_step) := by
  intro f cdv A outer s H hr hg
  have st : Sit (BodyCx P w K mg base ["one", "other"] "common_step" (defScope (top 13)) f cdv A outer s H) 0 := ⟨hr, hg⟩
  exact (sss_cons (ss_while PassesOwn.never (sb_cmp gt_ok (sa_name (i := 1)) (SE.a se_int) rfl) (sss_cons (ss_par (i := 0) (j := 1) rfl sc_common_step.nd rfl rfl (by decide) rfl rfl (svs_cons (se_name (i := 1)) (svs_cons (se_bin mod_ok (sa_name (i := 0)) (sa_name (i := 1))) svs_nil)) (by rfl))
    sss_nil))
    (sss_cons (ss_ret (se_name (i := 0)))
    sss_nil))
noncomputable def g_rest_from : MS :=
    (seqM (retM (ifV (boolT (opN eqD [.p 1, .v (cE (.int 0))])) (tupV [(nameV 0), (cE (.int 0))]) (tupV [(opN modD [.p 0, .p 1]), (nameV 1)])))
    skipM)
noncomputable def sem_rest_from : List D → Option D := semA 2 0 g_rest_from
theorem sc_rest_from : FnScope ["first", "step"] ["first", "step"] (defScope (top 14)) := ⟨rfl, rfl, rfl, by decide +kernel, rfl, by decide +kernel, by decide +kernel⟩
theorem b_rest_from {P : Program} {w : World} {K : FragK} {mg : Str → Option Value} {base : Heap}   :
    BodyOk P w K mg base ["first", "step"] "rest_from" (defScope (top 14)) (defBody (top 14)) 0 (g_rest_from) := by
  intro f cdv A outer s H hr hg
  have st : Sit (BodyCx P w K mg base ["first", "step"] "rest_from" (defScope (top 14)) f cdv A outer s H) 0 := ⟨hr, hg⟩
  exact (sss_cons (ss_ret (se_if (sb_cmp (eq_ok st.units) (sa_name (i := 1)) (SE.a se_int) rfl) (se_tup (svs_cons (se_name (i := 0)) (svs_cons se_int svs_nil))) (se_tup (svs_cons (se_bin mod_ok (sa_name (i := 0)) (sa_name (i := 1))) (svs_cons (se_name (i := 1)) svs_nil)))))
    sss_nil)
noncomputable def g_in_rest : MS :=
    (seqM (retM (ifV (boolT (opN eqD [.v (opN ixD [.p 0, .v (cE (.int 1))]), .v (cE (.int 0))])) (opN eqD [.p 1, .v (opN ixD [.p 0, .v (cE (.int 0))])]) (opN eqD [.v (opN modD [.v (opN subD [.p 1, .v (opN ixD [.p 0, .v (cE (.int 0))])]), .v (opN ixD [.p 0, .v (cE (.int 1))])]), .v (cE (.int 0))])))
    skipM)
noncomputable def sem_in_rest : List D → Option D := semA 2 0 g_in_rest
theorem sc_in_rest : FnScope ["rest", "number"] ["rest", "number"] (defScope (top 15)) := ⟨rfl, rfl, rfl, by decide +kernel, rfl, by decide +kernel, by decide +kernel⟩
theorem b_in_rest {P : Program} {w : World} {K : FragK} {mg : Str → Option Value} {base : Heap}   :
    BodyOk P w K mg base ["rest", "number"] "in_rest" (defScope (top 15)) (defBody (top 15)) 0 (g_in_rest) := by
  intro f cdv A outer s H hr hg
  have st : Sit (BodyCx P w K mg base ["rest", "number"] "in_rest" (defScope (top 15)) f cdv A outer s H) 0 := ⟨hr, hg⟩
  exact (sss_cons (ss_ret (se_if (sb_cmp (eq_ok st.units) (SE.a (se_ix (ix_ok st.units0) (sa_name (i := 0)) (SE.a se_int))) (SE.a se_int) rfl) (se_cmp (eq_ok st.units) (sa_name (i := 1)) (SE.a (se_ix (ix_ok st.units0) (sa_name (i := 0)) (SE.a se_int))) rfl) (se_cmp (eq_ok st.units) (SE.a (se_bin mod_ok (SE.a (se_bin sub_ok (sa_name (i := 1)) (SE.a (se_ix (ix_ok st.units0) (sa_name (i := 0)) (SE.a se_int))))) (SE.a (se_ix (ix_ok st.units0) (sa_name (i := 0)) (SE.a se_int))))) (SE.a se_int) rfl)))
    sss_nil)
noncomputable def wc_turns_back_1 : MT :=
    (boolT (opN gtD [.p 3, .v (cE (.int 0))]))
noncomputable def wb_turns_back_2 : MS :=
    (seqM (asgM 6 (opN fdivD [.p 2, .p 3]))
    (seqM (parM 2 3 (nameV 3) (opN subD [.p 2, .v (opN mulD [.p 6, .p 3])]))
    (seqM (parM 4 5 (nameV 5) (opN subD [.p 4, .v (opN mulD [.p 6, .p 5])]))
    skipM)))
noncomputable def g_turns_back : MS :=
    (seqM (asgT (tupV [(nameV 0), (nameV 1), (cE (.int 1)), (cE (.int 0))]) (tgTup 4 (tgCons (tgName 2) (tgCons (tgName 3) (tgCons (tgName 4) (tgCons (tgName 5) tgNil))))))
    (seqM (whileM wc_turns_back_1 wb_turns_back_2)
    (seqM (retM (ifV (boolT (opN gtD [.p 1, .v (cE (.int 0))])) (opN modD [.p 4, .p 1]) (cE (.int 0))))
    skipM)))
noncomputable def sem_turns_back : List D → Option D := semA 2 5 g_turns_back
theorem sc_turns_back : FnScope ["one", "other", "before", "now", "first", "second", "many"] ["one", "other"] (defScope (top 18)) := ⟨rfl, rfl, rfl, by decide +kernel, rfl, by decide +kernel, by decide +kernel⟩
theorem b_turns_back {P : Program} {w : World} {K : FragK} {mg : Str → Option Value} {base : Heap}   :
    BodyOk P w K mg base ["one", "other", "before", "now", "first", "second", "many"] "turns_back" (defScope (top 18)) (defBody (top 18)) 0 (g_turns_back) := by
  intro f cdv A outer s H hr hg
  have st : Sit (BodyCx P w K mg base ["one", "other", "before", "now", "first", "second", "many"] "turns_back" (defScope (top 18)) f cdv A outer s H) 0 := ⟨hr, hg⟩
  exact (sss_cons (ss_asg (se_tup (svs_cons (se_name (i := 0)) (svs_cons (se_name (i := 1)) (svs_cons se_int (svs_cons se_int svs_nil))))) (sg_tup rfl (sgs_cons (sg_name (i := 2) sc_turns_back.nd rfl (by first | exact Or.inl rfl | exact Or.inr rfl)) (sgs_cons (sg_name (i := 3) sc_turns_back.nd rfl (by first | exact Or.inl rfl | exact Or.inr rfl)) (sgs_cons (sg_name (i := 4) sc_turns_back.nd rfl (by first | exact Or.inl rfl | exact Or.inr rfl)) (sgs_cons (sg_name (i := 5) sc_turns_back.nd rfl (by first | exact Or.inl rfl | exact Or.inr rfl)) sgs_nil))))))
    (sss_cons (ss_while PassesOwn.never (sb_cmp gt_ok (sa_name (i := 3)) (SE.a se_int) rfl) (sss_cons (ss_set (i := 6) sc_turns_back.nd rfl (by first | exact Or.inl rfl | exact Or.inr rfl) (se_bin fdiv_ok (sa_name (i := 2)) (sa_name (i := 3))))
    (sss_cons (ss_par (i := 2) (j := 3) rfl sc_turns_back.nd rfl rfl (by decide) rfl rfl (svs_cons (se_name (i := 3)) (svs_cons (se_bin sub_ok (sa_name (i := 2)) (SE.a (se_bin mul_ok (sa_name (i := 6)) (sa_name (i := 3))))) svs_nil)) (by rfl))
    (sss_cons (ss_par (i := 4) (j := 5) rfl sc_turns_back.nd rfl rfl (by decide) rfl rfl (svs_cons (se_name (i := 5)) (svs_cons (se_bin sub_ok (sa_name (i := 4)) (SE.a (se_bin mul_ok (sa_name (i := 6)) (sa_name (i := 5))))) svs_nil)) (by rfl))
    sss_nil))))
    (sss_cons (ss_ret (se_if (sb_cmp gt_ok (sa_name (i := 1)) (SE.a se_int) rfl) (se_bin mod_ok (sa_name (i := 4)) (sa_name (i := 1))) se_int))
    sss_nil)))
noncomputable def g_meet_rests : MS :=
    (seqM (ifM (boolT (opN eqD [.v (opN ixD [.p 0, .v (cE (.int 1))]), .v (cE (.int 0))])) (seqM (retM (ifV (boolT (callA sem_in_rest [(nameV 1), (opN ixD [.p 0, .v (cE (.int 0))])])) (nameV 0) (cE .none)))
    skipM) skipM)
    (seqM (ifM (boolT (opN eqD [.v (opN ixD [.p 1, .v (cE (.int 1))]), .v (cE (.int 0))])) (seqM (retM (ifV (boolT (callA sem_in_rest [(nameV 0), (opN ixD [.p 1, .v (cE (.int 0))])])) (nameV 1) (cE .none)))
    skipM) skipM)
    (seqM (asgM 2 (callA sem_common_step [(opN ixD [.p 0, .v (cE (.int 1))]), (opN ixD [.p 1, .v (cE (.int 1))])]))
    (seqM (asgM 3 (opN subD [.v (opN ixD [.p 1, .v (cE (.int 0))]), .v (opN ixD [.p 0, .v (cE (.int 0))])]))
    (seqM (ifM (boolT (opN neD [.v (opN modD [.p 3, .p 2]), .v (cE (.int 0))])) (seqM (retM (cE .none))
    skipM) skipM)
    (seqM (asgM 4 (opN fdivD [.v (opN ixD [.p 1, .v (cE (.int 1))]), .p 2]))
    (seqM (asgM 5 (ifV (boolT (opN gtD [.p 4, .v (cE (.int 1))])) (opN mulD [.v (opN fdivD [.p 3, .p 2]), .v (callA sem_turns_back [(opN modD [.v (opN fdivD [.v (opN ixD [.p 0, .v (cE (.int 1))]), .p 2]), .p 4]), (nameV 4)])]) (cE (.int 0))))
    (seqM (retM (callA sem_rest_from [(opN addD [.v (opN ixD [.p 0, .v (cE (.int 0))]), .v (opN mulD [.v (opN ixD [.p 0, .v (cE (.int 1))]), .p 5])]), (opN mulD [.v (opN ixD [.p 0, .v (cE (.int 1))]), .p 4])]))
    skipM))))))))
noncomputable def sem_meet_rests : List D → Option D := semA 2 4 g_meet_rests
theorem sc_meet_rests : FnScope ["rest", "other", "common", "gap", "part", "turns"] ["rest", "other"] (defScope (top 19)) := ⟨rfl, rfl, rfl, by decide +kernel, rfl, by decide +kernel, by decide +kernel⟩
theorem b_meet_rests {P : Program} {w : World} {K : FragK} {mg : Str → Option Value} {base : Heap}  (c_in_rest : Cl P w K mg base 1 "in_rest" ["rest", "number"] (spA K sem_in_rest)) (c_common_step : Cl P w K mg base 1 "common_step" ["one", "other"] (spA K sem_common_step)) (c_turns_back : Cl P w K mg base 1 "turns_back" ["one", "other"] (spA K sem_turns_back)) (c_rest_from : Cl P w K mg base 1 "rest_from" ["first", "step"] (spA K sem_rest_from)) :
    BodyOk P w K mg base ["rest", "other", "common", "gap", "part", "turns"] "meet_rests" (defScope (top 19)) (defBody (top 19)) 1 (g_meet_rests) := by
  intro f cdv A outer s H hr hg
  have st : Sit (BodyCx P w K mg base ["rest", "other", "common", "gap", "part", "turns"] "meet_rests" (defScope (top 19)) f cdv A outer s H) 1 := ⟨hr, hg⟩
  exact (sss_cons (ss_if (sb_cmp (eq_ok st.units) (SE.a (se_ix (ix_ok st.units0) (sa_name (i := 0)) (SE.a se_int))) (SE.a se_int) rfl) (sss_cons (ss_ret (se_if (sb_val (se_ca c_in_rest (Sit.mk st.room st.gu) (svs_cons (se_name (i := 1)) (svs_cons (se_ix (ix_ok st.units0) (sa_name (i := 0)) (SE.a se_int)) svs_nil)))) (se_name (i := 0)) se_non))
    sss_nil) sss_nil)
    (sss_cons (ss_if (sb_cmp (eq_ok st.units) (SE.a (se_ix (ix_ok st.units0) (sa_name (i := 1)) (SE.a se_int))) (SE.a se_int) rfl) (sss_cons (ss_ret (se_if (sb_val (se_ca c_in_rest (Sit.mk st.room st.gu) (svs_cons (se_name (i := 0)) (svs_cons (se_ix (ix_ok st.units0) (sa_name (i := 1)) (SE.a se_int)) svs_nil)))) (se_name (i := 1)) se_non))
    sss_nil) sss_nil)
    (sss_cons (ss_set (i := 2) sc_meet_rests.nd rfl (by first | exact Or.inl rfl | exact Or.inr rfl) (se_ca c_common_step (Sit.mk st.room st.gu) (svs_cons (se_ix (ix_ok st.units0) (sa_name (i := 0)) (SE.a se_int)) (svs_cons (se_ix (ix_ok st.units0) (sa_name (i := 1)) (SE.a se_int)) svs_nil))))
    (sss_cons (ss_set (i := 3) sc_meet_rests.nd rfl (by first | exact Or.inl rfl | exact Or.inr rfl) (se_bin sub_ok (SE.a (se_ix (ix_ok st.units0) (sa_name (i := 1)) (SE.a se_int))) (SE.a (se_ix (ix_ok st.units0) (sa_name (i := 0)) (SE.a se_int)))))
    (sss_cons (ss_if (sb_cmp (ne_ok st.units) (SE.a (se_bin mod_ok (sa_name (i := 3)) (sa_name (i := 2)))) (SE.a se_int) rfl) (sss_cons (ss_ret se_non)
    sss_nil) sss_nil)
    (sss_cons (ss_set (i := 4) sc_meet_rests.nd rfl (by first | exact Or.inl rfl | exact Or.inr rfl) (se_bin fdiv_ok (SE.a (se_ix (ix_ok st.units0) (sa_name (i := 1)) (SE.a se_int))) (sa_name (i := 2))))
    (sss_cons (ss_set (i := 5) sc_meet_rests.nd rfl (by first | exact Or.inl rfl | exact Or.inr rfl) (se_if (sb_cmp gt_ok (sa_name (i := 4)) (SE.a se_int) rfl) (se_bin mul_ok (SE.a (se_bin fdiv_ok (sa_name (i := 3)) (sa_name (i := 2)))) (SE.a (se_ca c_turns_back (Sit.mk st.room st.gu) (svs_cons (se_bin mod_ok (SE.a (se_bin fdiv_ok (SE.a (se_ix (ix_ok st.units0) (sa_name (i := 0)) (SE.a se_int))) (sa_name (i := 2)))) (sa_name (i := 4))) (svs_cons (se_name (i := 4)) svs_nil))))) se_int))
    (sss_cons (ss_ret (se_ca c_rest_from (Sit.mk st.room st.gu) (svs_cons (se_bin add_ok (SE.a (se_ix (ix_ok st.units0) (sa_name (i := 0)) (SE.a se_int))) (SE.a (se_bin mul_ok (SE.a (se_ix (ix_ok st.units0) (sa_name (i := 0)) (SE.a se_int))) (sa_name (i := 5))))) (svs_cons (se_bin mul_ok (SE.a (se_ix (ix_ok st.units0) (sa_name (i := 0)) (SE.a se_int))) (sa_name (i := 4))) svs_nil))))
    sss_nil))))))))
noncomputable def g_rest_met : MS :=
    (seqM (exprM (callA sem_check_two_rests [(nameV 0), (nameV 1)]))
    (seqM (retM (callA sem_meet_rests [(nameV 0), (nameV 1)]))
    skipM))
noncomputable def sem_rest_met : List D → Option D := semA 2 0 g_rest_met
theorem sc_rest_met : FnScope ["rest", "other"] ["rest", "other"] (defScope (top 27)) := ⟨rfl, rfl, rfl, by decide +kernel, rfl, by decide +kernel, by decide +kernel⟩
theorem b_rest_met {P : Program} {w : World} {K : FragK} {mg : Str → Option Value} {base : Heap}  (c_check_two_rests : Cl P w K mg base 4 "check_two_rests" ["rest", "other"] (spA K sem_check_two_rests)) (c_meet_rests : Cl P w K mg base 2 "meet_rests" ["rest", "other"] (spA K sem_meet_rests)) :
    BodyOk P w K mg base ["rest", "other"] "rest_met" (defScope (top 27)) (defBody (top 27)) 4 (g_rest_met) := by
  intro f cdv A outer s H hr hg
  have st : Sit (BodyCx P w K mg base ["rest", "other"] "rest_met" (defScope (top 27)) f cdv A outer s H) 4 := ⟨hr, hg⟩
  exact (sss_cons (ss_expr (se_ca c_check_two_rests (Sit.mk st.room st.gu) (svs_cons (se_name (i := 0)) (svs_cons (se_name (i := 1)) svs_nil))))
    (sss_cons (ss_ret (se_ca c_meet_rests (Sit.mk st.room st.gu) (svs_cons (se_name (i := 0)) (svs_cons (se_name (i := 1)) svs_nil))))
    sss_nil))
noncomputable def g__law_rest : MS :=
    (seqM (retM (ifV (boolT (opN eqD [.p 1, .v (cE (.int 0))])) (tupV [(nameV 0), (cE (.int 0))]) (tupV [(opN modD [.v (opN intD [.p 0]), .p 1]), (nameV 1)])))
    skipM)
noncomputable def sem__law_rest : List D → Option D := semA 2 0 g__law_rest
theorem sc__law_rest : FnScope ["first", "step"] ["first", "step"] (defScope (top 42)) := ⟨rfl, rfl, rfl, by decide +kernel, rfl, by decide +kernel, by decide +kernel⟩
theorem b__law_rest {P : Program} {w : World} {K : FragK} {mg : Str → Option Value} {base : Heap} (m_int : mg "int" = none)  :
    BodyOk P w K mg base ["first", "step"] "_law_rest" (defScope (top 42)) (defBody (top 42)) 0 (g__law_rest) := by
  intro f cdv A outer s H hr hg
  have st : Sit (BodyCx P w K mg base ["first", "step"] "_law_rest" (defScope (top 42)) f cdv A outer s H) 0 := ⟨hr, hg⟩
  exact (sss_cons (ss_ret (se_if (sb_cmp (eq_ok st.units) (sa_name (i := 1)) (SE.a se_int) rfl) (se_tup (svs_cons (se_name (i := 0)) (svs_cons se_int svs_nil))) (se_tup (svs_cons (se_bin mod_ok (SE.a (se_callT int_ok rfl m_int bt_int (sas_cons (sa_name (i := 0)) sas_nil))) (sa_name (i := 1))) (svs_cons (se_name (i := 1)) svs_nil)))))
    sss_nil)
noncomputable def g_check_rest_number : MS :=
    (seqM (exprM (callA sem_check_rest [(nameV 0)]))
    (seqM (ifM (notT (boolT (callA sem_is_whole [(nameV 1)]))) (seqM nevM
    skipM) skipM)
    skipM))
noncomputable def sem_check_rest_number : List D → Option D := semA 2 0 g_check_rest_number
theorem sc_check_rest_number : FnScope ["rest", "number"] ["rest", "number"] (defScope (top 12)) := ⟨rfl, rfl, rfl, by decide +kernel, rfl, by decide +kernel, by decide +kernel⟩
theorem b_check_rest_number {P : Program} {w : World} {K : FragK} {mg : Str → Option Value} {base : Heap}  (c_check_rest : Cl P w K mg base 3 "check_rest" ["rest"] (spA K sem_check_rest)) (c_is_whole : Cl P w K mg base 1 "is_whole" ["value"] (spA K sem_is_whole)) :
    BodyOk P w K mg base ["rest", "number"] "check_rest_number" (defScope (top 12)) (defBody (top 12)) 3 (g_check_rest_number) := by
  intro f cdv A outer s H hr hg
  have st : Sit (BodyCx P w K mg base ["rest", "number"] "check_rest_number" (defScope (top 12)) f cdv A outer s H) 3 := ⟨hr, hg⟩
  exact (sss_cons (ss_expr (se_ca c_check_rest (Sit.mk st.room st.gu) (svs_cons (se_name (i := 0)) svs_nil)))
    (sss_cons (ss_if (sb_not (sb_val (se_ca c_is_whole (Sit.mk st.room st.gu) (svs_cons (se_name (i := 1)) svs_nil)))) (sss_cons ss_never
    sss_nil) sss_nil)
    sss_nil))
noncomputable def g_move_rest : MS :=
    (seqM (retM (callA sem_rest_from [(opN addD [.v (opN ixD [.p 0, .v (cE (.int 0))]), .p 1]), (opN ixD [.p 0, .v (cE (.int 1))])]))
    skipM)
noncomputable def sem_move_rest : List D → Option D := semA 2 0 g_move_rest
theorem sc_move_rest : FnScope ["rest", "number"] ["rest", "number"] (defScope (top 20)) := ⟨rfl, rfl, rfl, by decide +kernel, rfl, by decide +kernel, by decide +kernel⟩
theorem b_move_rest {P : Program} {w : World} {K : FragK} {mg : Str → Option Value} {base : Heap}  (c_rest_from : Cl P w K mg base 1 "rest_from" ["first", "step"] (spA K sem_rest_from)) :
    BodyOk P w K mg base ["rest", "number"] "move_rest" (defScope (top 20)) (defBody (top 20)) 1 (g_move_rest) := by
  intro f cdv A outer s H hr hg
  have st : Sit (BodyCx P w K mg base ["rest", "number"] "move_rest" (defScope (top 20)) f cdv A outer s H) 1 := ⟨hr, hg⟩
  exact (sss_cons (ss_ret (se_ca c_rest_from (Sit.mk st.room st.gu) (svs_cons (se_bin add_ok (SE.a (se_ix (ix_ok st.units0) (sa_name (i := 0)) (SE.a se_int))) (sa_name (i := 1))) (svs_cons (se_ix (ix_ok st.units0) (sa_name (i := 0)) (SE.a se_int)) svs_nil))))
    sss_nil)
noncomputable def g_rest_plus : MS :=
    (seqM (exprM (callA sem_check_rest_number [(nameV 0), (nameV 1)]))
    (seqM (retM (callA sem_move_rest [(nameV 0), (nameV 1)]))
    skipM))
noncomputable def sem_rest_plus : List D → Option D := semA 2 0 g_rest_plus
theorem sc_rest_plus : FnScope ["rest", "number"] ["rest", "number"] (defScope (top 28)) := ⟨rfl, rfl, rfl, by decide +kernel, rfl, by decide +kernel, by decide +kernel⟩
theorem b_rest_plus {P : Program} {w : World} {K : FragK} {mg : Str → Option Value} {base : Heap}  (c_check_rest_number : Cl P w K mg base 4 "check_rest_number" ["rest", "number"] (spA K sem_check_rest_number)) (c_move_rest : Cl P w K mg base 2 "move_rest" ["rest", "number"] (spA K sem_move_rest)) :
    BodyOk P w K mg base ["rest", "number"] "rest_plus" (defScope (top 28)) (defBody (top 28)) 4 (g_rest_plus) := by
  intro f cdv A outer s H hr hg
  have st : Sit (BodyCx P w K mg base ["rest", "number"] "rest_plus" (defScope (top 28)) f cdv A outer s H) 4 := ⟨hr, hg⟩
  exact (sss_cons (ss_expr (se_ca c_check_rest_number (Sit.mk st.room st.gu) (svs_cons (se_name (i := 0)) (svs_cons (se_name (i := 1)) svs_nil))))
    (sss_cons (ss_ret (se_ca c_move_rest (Sit.mk st.room st.gu) (svs_cons (se_name (i := 0)) (svs_cons (se_name (i := 1)) svs_nil))))
    sss_nil))
noncomputable def g_turn_rest : MS :=
    (seqM (retM (callA sem_rest_from [(opN subD [.p 1, .v (opN ixD [.p 0, .v (cE (.int 0))])]), (opN ixD [.p 0, .v (cE (.int 1))])]))
    skipM)
noncomputable def sem_turn_rest : List D → Option D := semA 2 0 g_turn_rest
theorem sc_turn_rest : FnScope ["rest", "number"] ["rest", "number"] (defScope (top 21)) := ⟨rfl, rfl, rfl, by decide +kernel, rfl, by decide +kernel, by decide +kernel⟩
theorem b_turn_rest {P : Program} {w : World} {K : FragK} {mg : Str → Option Value} {base : Heap}  (c_rest_from : Cl P w K mg base 1 "rest_from" ["first", "step"] (spA K sem_rest_from)) :
    BodyOk P w K mg base ["rest", "number"] "turn_rest" (defScope (top 21)) (defBody (top 21)) 1 (g_turn_rest) := by
  intro f cdv A outer s H hr hg
  have st : Sit (BodyCx P w K mg base ["rest", "number"] "turn_rest" (defScope (top 21)) f cdv A outer s H) 1 := ⟨hr, hg⟩
  exact (sss_cons (ss_ret (se_ca c_rest_from (Sit.mk st.room st.gu) (svs_cons (se_bin sub_ok (sa_name (i := 1)) (SE.a (se_ix (ix_ok st.units0) (sa_name (i := 0)) (SE.a se_int)))) (svs_cons (se_ix (ix_ok st.units0) (sa_name (i := 0)) (SE.a se_int)) svs_nil))))
    sss_nil)
noncomputable def g_rest_turned : MS :=
    (seqM (exprM (callA sem_check_rest_number [(nameV 0), (nameV 1)]))
    (seqM (retM (callA sem_turn_rest [(nameV 0), (nameV 1)]))
    skipM))
noncomputable def sem_rest_turned : List D → Option D := semA 2 0 g_rest_turned
theorem sc_rest_turned : FnScope ["rest", "number"] ["rest", "number"] (defScope (top 29)) := ⟨rfl, rfl, rfl, by decide +kernel, rfl, by decide +kernel, by decide +kernel⟩
theorem b_rest_turned {P : Program} {w : World} {K : FragK} {mg : Str → Option Value} {base : Heap}  (c_check_rest_number : Cl P w K mg base 4 "check_rest_number" ["rest", "number"] (spA K sem_check_rest_number)) (c_turn_rest : Cl P w K mg base 2 "turn_rest" ["rest", "number"] (spA K sem_turn_rest)) :
    BodyOk P w K mg base ["rest", "number"] "rest_turned" (defScope (top 29)) (defBody (top 29)) 4 (g_rest_turned) := by
  intro f cdv A outer s H hr hg
  have st : Sit (BodyCx P w K mg base ["rest", "number"] "rest_turned" (defScope (top 29)) f cdv A outer s H) 4 := ⟨hr, hg⟩
  exact (sss_cons (ss_expr (se_ca c_check_rest_number (Sit.mk st.room st.gu) (svs_cons (se_name (i := 0)) (svs_cons (se_name (i := 1)) svs_nil))))
    (sss_cons (ss_ret (se_ca c_turn_rest (Sit.mk st.room st.gu) (svs_cons (se_name (i := 0)) (svs_cons (se_name (i := 1)) svs_nil))))
    sss_nil))
noncomputable def g__law_in : MS :=
    (seqM (retM (ifV (boolT (opN eqD [.v (opN ixD [.p 0, .v (cE (.int 1))]), .v (cE (.int 0))])) (opN eqD [.p 1, .v (opN ixD [.p 0, .v (cE (.int 0))])]) (opN eqD [.v (opN modD [.v (opN intD [.v (opN subD [.p 1, .v (opN ixD [.p 0, .v (cE (.int 0))])])]), .v (opN ixD [.p 0, .v (cE (.int 1))])]), .v (cE (.int 0))])))
    skipM)
noncomputable def sem__law_in : List D → Option D := semA 2 0 g__law_in
theorem sc__law_in : FnScope ["rest", "number"] ["rest", "number"] (defScope (top 43)) := ⟨rfl, rfl, rfl, by decide +kernel, rfl, by decide +kernel, by decide +kernel⟩
theorem b__law_in {P : Program} {w : World} {K : FragK} {mg : Str → Option Value} {base : Heap} (m_int : mg "int" = none)  :
    BodyOk P w K mg base ["rest", "number"] "_law_in" (defScope (top 43)) (defBody (top 43)) 0 (g__law_in) := by
  intro f cdv A outer s H hr hg
  have st : Sit (BodyCx P w K mg base ["rest", "number"] "_law_in" (defScope (top 43)) f cdv A outer s H) 0 := ⟨hr, hg⟩
  exact (sss_cons (ss_ret (se_if (sb_cmp (eq_ok st.units) (SE.a (se_ix (ix_ok st.units0) (sa_name (i := 0)) (SE.a se_int))) (SE.a se_int) rfl) (se_cmp (eq_ok st.units) (sa_name (i := 1)) (SE.a (se_ix (ix_ok st.units0) (sa_name (i := 0)) (SE.a se_int))) rfl) (se_cmp (eq_ok st.units) (SE.a (se_bin mod_ok (SE.a (se_callT int_ok rfl m_int bt_int (sas_cons (SE.a (se_bin sub_ok (sa_name (i := 1)) (SE.a (se_ix (ix_ok st.units0) (sa_name (i := 0)) (SE.a se_int))))) sas_nil))) (SE.a (se_ix (ix_ok st.units0) (sa_name (i := 0)) (SE.a se_int))))) (SE.a se_int) rfl)))
    sss_nil)
noncomputable def g_rest_holds : MS :=
    (seqM (exprM (callA sem_check_rest_number [(nameV 0), (nameV 1)]))
    (seqM (retM (callA sem_in_rest [(nameV 0), (nameV 1)]))
    skipM))
noncomputable def sem_rest_holds : List D → Option D := semA 2 0 g_rest_holds
theorem sc_rest_holds : FnScope ["rest", "number"] ["rest", "number"] (defScope (top 23)) := ⟨rfl, rfl, rfl, by decide +kernel, rfl, by decide +kernel, by decide +kernel⟩
theorem b_rest_holds {P : Program} {w : World} {K : FragK} {mg : Str → Option Value} {base : Heap}  (c_check_rest_number : Cl P w K mg base 4 "check_rest_number" ["rest", "number"] (spA K sem_check_rest_number)) (c_in_rest : Cl P w K mg base 1 "in_rest" ["rest", "number"] (spA K sem_in_rest)) :
    BodyOk P w K mg base ["rest", "number"] "rest_holds" (defScope (top 23)) (defBody (top 23)) 4 (g_rest_holds) := by
  intro f cdv A outer s H hr hg
  have st : Sit (BodyCx P w K mg base ["rest", "number"] "rest_holds" (defScope (top 23)) f cdv A outer s H) 4 := ⟨hr, hg⟩
  exact (sss_cons (ss_expr (se_ca c_check_rest_number (Sit.mk st.room st.gu) (svs_cons (se_name (i := 0)) (svs_cons (se_name (i := 1)) svs_nil))))
    (sss_cons (ss_ret (se_ca c_in_rest (Sit.mk st.room st.gu) (svs_cons (se_name (i := 0)) (svs_cons (se_name (i := 1)) svs_nil))))
    sss_nil))
noncomputable def fb__law_moved_right_1 : MS :=
    (seqM (asgM 7 (callA sem__law_in [(nameV 1), (nameV 6)]))
    (seqM (ifM (notT (boolT (callA (sem__law_same 12) [(lstV [(callA sem_rest_holds [(nameV 1), (nameV 6)]), (callK sem_rest_holds [1, 0] [(nameV 6), (nameV 1)]), (callA sem_rest_holds [(nameV 3), (opN addD [.p 6, .p 2])])]), (lstV [(nameV 7), (nameV 7), (nameV 7)])]))) (seqM (retM (cE (.bool false)))
    skipM) skipM)
    skipM))
noncomputable def g__law_moved_right : MS :=
    (seqM (parM 3 4 (callA sem__law_rest [(opN addD [.v (opN ixD [.p 1, .v (cE (.int 0))]), .p 2]), (opN ixD [.p 1, .v (cE (.int 1))])]) (callA sem__law_rest [(opN subD [.p 2, .v (opN ixD [.p 1, .v (cE (.int 0))])]), (opN ixD [.p 1, .v (cE (.int 1))])]))
    (seqM (asgM 5 (lstV [(callA sem_rest_plus [(nameV 1), (nameV 2)]), (callK sem_rest_plus [1, 0] [(nameV 2), (nameV 1)]), (callA sem_rest_turned [(nameV 1), (nameV 2)]), (callK sem_rest_turned [1, 0] [(nameV 2), (nameV 1)])]))
    (seqM (ifM (notT (boolT (callA (sem__law_same 12) [(nameV 5), (lstV [(nameV 3), (nameV 3), (nameV 4), (nameV 4)])]))) (seqM (retM (cE (.bool false)))
    skipM) skipM)
    (seqM (forM' (itSeq (lstV [(nameV 2), (opN ixD [.p 1, .v (cE (.int 0))]), (opN addD [.v (opN ixD [.p 1, .v (cE (.int 0))]), .v (opN ixD [.p 1, .v (cE (.int 1))])]), (opN subD [.v (opN ixD [.p 1, .v (cE (.int 0))]), .v (opN mulD [.v (cE (.int 5)), .v (opN ixD [.p 1, .v (cE (.int 1))])])]), (opN addD [.v (opN ixD [.p 1, .v (cE (.int 0))]), .v (cE (.int 1))]), (cE (.int 0))])) (tgName 6) fb__law_moved_right_1)
    (seqM (retM (cE (.bool true)))
    skipM)))))
noncomputable def sem__law_moved_right : List D → Option D := semA 3 5 g__law_moved_right
theorem sc__law_moved_right : FnScope ["generator", "rest", "number", "plus", "turned", "told", "some", "due"] ["generator", "rest", "number"] (defScope (top 48)) := ⟨rfl, rfl, rfl, by decide +kernel, rfl, by decide +kernel, by decide +kernel⟩
theorem b__law_moved_right {P : Program} {w : World} {K : FragK} {mg : Str → Option Value} {base : Heap}  (c__law_rest : Cl P w K mg base 1 "_law_rest" ["first", "step"] (spA K sem__law_rest)) (c_rest_plus : Cl P w K mg base 5 "rest_plus" ["rest", "number"] (spA K sem_rest_plus)) (ck0_rest_plus : ClK P w K mg base 5 "rest_plus" ["rest", "number"] 0 ["number", "rest"] [1, 0] (spA K sem_rest_plus)) (c_rest_turned : Cl P w K mg base 5 "rest_turned" ["rest", "number"] (spA K sem_rest_turned)) (ck0_rest_turned : ClK P w K mg base 5 "rest_turned" ["rest", "number"] 0 ["number", "rest"] [1, 0] (spA K sem_rest_turned)) (c__law_same : Cl P w K mg base 12 "_law_same" ["found", "due"] (spA K (sem__law_same 12))) (c__law_in : Cl P w K mg base 1 "_law_in" ["rest", "number"] (spA K sem__law_in)) (c_rest_holds : Cl P w K mg base 5 "rest_holds" ["rest", "number"] (spA K sem_rest_holds)) (ck0_rest_holds : ClK P w K mg base 5 "rest_holds" ["rest", "number"] 0 ["number", "rest"] [1, 0] (spA K sem_rest_holds)) :
    BodyOk P w K mg base ["generator", "rest", "number", "plus", "turned", "told", "some", "due"] "_law_moved_right" (defScope (top 48)) (defBody (top 48)) 12 (g__law_moved_right) := by
  intro f cdv A outer s H hr hg
  have st : Sit (BodyCx P w K mg base ["generator", "rest", "number", "plus", "turned", "told", "some", "due"] "_law_moved_right" (defScope (top 48)) f cdv A outer s H) 12 := ⟨hr, hg⟩
  exact (sss_cons (ss_par (i := 3) (j := 4) rfl sc__law_moved_right.nd rfl rfl (by decide) rfl rfl (svs_cons (se_ca c__law_rest (Sit.mk st.room st.gu) (svs_cons (se_bin add_ok (SE.a (se_ix (ix_ok st.units0) (sa_name (i := 1)) (SE.a se_int))) (sa_name (i := 2))) (svs_cons (se_ix (ix_ok st.units0) (sa_name (i := 1)) (SE.a se_int)) svs_nil))) (svs_cons (se_ca c__law_rest (Sit.mk st.room st.gu) (svs_cons (se_bin sub_ok (sa_name (i := 2)) (SE.a (se_ix (ix_ok st.units0) (sa_name (i := 1)) (SE.a se_int)))) (svs_cons (se_ix (ix_ok st.units0) (sa_name (i := 1)) (SE.a se_int)) svs_nil))) svs_nil)) (by rfl))
    (sss_cons (ss_set (i := 5) sc__law_moved_right.nd rfl (by first | exact Or.inl rfl | exact Or.inr rfl) (SF.se (sf_lst (svs_cons (se_ca c_rest_plus (Sit.mk st.room st.gu) (svs_cons (se_name (i := 1)) (svs_cons (se_name (i := 2)) svs_nil))) (svs_cons (se_ck0 ck0_rest_plus (Sit.mk st.room st.gu) (svk_cons (se_name (i := 2)) (svk_cons (se_name (i := 1)) svk_nil))) (svs_cons (se_ca c_rest_turned (Sit.mk st.room st.gu) (svs_cons (se_name (i := 1)) (svs_cons (se_name (i := 2)) svs_nil))) (svs_cons (se_ck0 ck0_rest_turned (Sit.mk st.room st.gu) (svk_cons (se_name (i := 2)) (svk_cons (se_name (i := 1)) svk_nil))) svs_nil)))))))
    (sss_cons (ss_if (sb_not (sb_val (se_ca c__law_same (Sit.mk st.room st.gu) (svs_cons (se_name (i := 5)) (svs_cons (SF.se (sf_lst (svs_cons (se_name (i := 3)) (svs_cons (se_name (i := 3)) (svs_cons (se_name (i := 4)) (svs_cons (se_name (i := 4)) svs_nil)))))) svs_nil))))) (sss_cons (ss_ret se_bl)
    sss_nil) sss_nil)
    (sss_cons (ss_for PassesOwn.never rfl (si_seq (SF.se (sf_lst (svs_cons (se_name (i := 2)) (svs_cons (se_ix (ix_ok st.units0) (sa_name (i := 1)) (SE.a se_int)) (svs_cons (se_bin add_ok (SE.a (se_ix (ix_ok st.units0) (sa_name (i := 1)) (SE.a se_int))) (SE.a (se_ix (ix_ok st.units0) (sa_name (i := 1)) (SE.a se_int)))) (svs_cons (se_bin sub_ok (SE.a (se_ix (ix_ok st.units0) (sa_name (i := 1)) (SE.a se_int))) (SE.a (se_bin mul_ok (SE.a se_int) (SE.a (se_ix (ix_ok st.units0) (sa_name (i := 1)) (SE.a se_int)))))) (svs_cons (se_bin add_ok (SE.a (se_ix (ix_ok st.units0) (sa_name (i := 1)) (SE.a se_int))) (SE.a se_int)) (svs_cons se_int svs_nil))))))))) (sg_name (i := 6) sc__law_moved_right.nd rfl (by first | exact Or.inl rfl | exact Or.inr rfl)) (sss_cons (ss_set (i := 7) sc__law_moved_right.nd rfl (by first | exact Or.inl rfl | exact Or.inr rfl) (se_ca c__law_in (Sit.mk st.room st.gu) (svs_cons (se_name (i := 1)) (svs_cons (se_name (i := 6)) svs_nil))))
    (sss_cons (ss_if (sb_not (sb_val (se_ca c__law_same (Sit.mk st.room st.gu) (svs_cons (SF.se (sf_lst (svs_cons (se_ca c_rest_holds (Sit.mk st.room st.gu) (svs_cons (se_name (i := 1)) (svs_cons (se_name (i := 6)) svs_nil))) (svs_cons (se_ck0 ck0_rest_holds (Sit.mk st.room st.gu) (svk_cons (se_name (i := 6)) (svk_cons (se_name (i := 1)) svk_nil))) (svs_cons (se_ca c_rest_holds (Sit.mk st.room st.gu) (svs_cons (se_name (i := 3)) (svs_cons (se_bin add_ok (sa_name (i := 6)) (sa_name (i := 2))) svs_nil))) svs_nil))))) (svs_cons (SF.se (sf_lst (svs_cons (se_name (i := 7)) (svs_cons (se_name (i := 7)) (svs_cons (se_name (i := 7)) svs_nil))))) svs_nil))))) (sss_cons (ss_ret se_bl)
    sss_nil) sss_nil)
    sss_nil)))
    (sss_cons (ss_ret se_bl)
    sss_nil)))))
noncomputable def g_join_rests : MS :=
    (seqM (retM (callA sem_rest_from [(opN ixD [.p 0, .v (cE (.int 0))]), (callA sem_common_step [(callA sem_common_step [(opN ixD [.p 0, .v (cE (.int 1))]), (opN ixD [.p 1, .v (cE (.int 1))])]), (opN absD [.v (opN subD [.v (opN ixD [.p 0, .v (cE (.int 0))]), .v (opN ixD [.p 1, .v (cE (.int 0))])])])])]))
    skipM)
noncomputable def sem_join_rests : List D → Option D := semA 2 0 g_join_rests
theorem sc_join_rests : FnScope ["rest", "other"] ["rest", "other"] (defScope (top 17)) := ⟨rfl, rfl, rfl, by decide +kernel, rfl, by decide +kernel, by decide +kernel⟩
theorem b_join_rests {P : Program} {w : World} {K : FragK} {mg : Str → Option Value} {base : Heap} (m_abs : mg "abs" = none) (c_rest_from : Cl P w K mg base 1 "rest_from" ["first", "step"] (spA K sem_rest_from)) (c_common_step : Cl P w K mg base 1 "common_step" ["one", "other"] (spA K sem_common_step)) :
    BodyOk P w K mg base ["rest", "other"] "join_rests" (defScope (top 17)) (defBody (top 17)) 1 (g_join_rests) := by
  intro f cdv A outer s H hr hg
  have st : Sit (BodyCx P w K mg base ["rest", "other"] "join_rests" (defScope (top 17)) f cdv A outer s H) 1 := ⟨hr, hg⟩
  exact (sss_cons (ss_ret (se_ca c_rest_from (Sit.mk st.room st.gu) (svs_cons (se_ix (ix_ok st.units0) (sa_name (i := 0)) (SE.a se_int)) (svs_cons (se_ca c_common_step (Sit.mk st.room st.gu) (svs_cons (se_ca c_common_step (Sit.mk st.room st.gu) (svs_cons (se_ix (ix_ok st.units0) (sa_name (i := 0)) (SE.a se_int)) (svs_cons (se_ix (ix_ok st.units0) (sa_name (i := 1)) (SE.a se_int)) svs_nil))) (svs_cons (se_callB abs_ok rfl m_abs bt_abs (sas_cons (SE.a (se_bin sub_ok (SE.a (se_ix (ix_ok st.units0) (sa_name (i := 0)) (SE.a se_int))) (SE.a (se_ix (ix_ok st.units0) (sa_name (i := 1)) (SE.a se_int))))) sas_nil)) svs_nil))) svs_nil))))
    sss_nil)
noncomputable def g_rest_joined : MS :=
    (seqM (exprM (callA sem_check_two_rests [(nameV 0), (nameV 1)]))
    (seqM (retM (callA sem_join_rests [(nameV 0), (nameV 1)]))
    skipM))
noncomputable def sem_rest_joined : List D → Option D := semA 2 0 g_rest_joined
theorem sc_rest_joined : FnScope ["rest", "other"] ["rest", "other"] (defScope (top 26)) := ⟨rfl, rfl, rfl, by decide +kernel, rfl, by decide +kernel, by decide +kernel⟩
theorem b_rest_joined {P : Program} {w : World} {K : FragK} {mg : Str → Option Value} {base : Heap}  (c_check_two_rests : Cl P w K mg base 4 "check_two_rests" ["rest", "other"] (spA K sem_check_two_rests)) (c_join_rests : Cl P w K mg base 2 "join_rests" ["rest", "other"] (spA K sem_join_rests)) :
    BodyOk P w K mg base ["rest", "other"] "rest_joined" (defScope (top 26)) (defBody (top 26)) 4 (g_rest_joined) := by
  intro f cdv A outer s H hr hg
  have st : Sit (BodyCx P w K mg base ["rest", "other"] "rest_joined" (defScope (top 26)) f cdv A outer s H) 4 := ⟨hr, hg⟩
  exact (sss_cons (ss_expr (se_ca c_check_two_rests (Sit.mk st.room st.gu) (svs_cons (se_name (i := 0)) (svs_cons (se_name (i := 1)) svs_nil))))
    (sss_cons (ss_ret (se_ca c_join_rests (Sit.mk st.room st.gu) (svs_cons (se_name (i := 0)) (svs_cons (se_name (i := 1)) svs_nil))))
    sss_nil))
noncomputable def g_tight_of : MS :=
    (seqM (asgT (nameV 0) (tgTup 2 (tgCons (tgName 2) (tgCons (tgName 3) tgNil))))
    (seqM (ifM (boolT (opN eqD [.v (opN ixD [.p 1, .v (cE (.int 1))]), .v (cE (.int 0))])) (seqM (asgM 4 (andV (orV (opN isND [.p 2, .v (cE .none)]) (opN leD [.p 2, .v (opN ixD [.p 1, .v (cE (.int 0))])])) (orV (opN isND [.p 3, .v (cE .none)]) (opN leD [.v (opN ixD [.p 1, .v (cE (.int 0))]), .p 3]))))
    (seqM (retM (ifV (boolT (nameV 4)) (tupV [(opN ixD [.p 1, .v (cE (.int 0))]), (opN ixD [.p 1, .v (cE (.int 0))])]) (cE .none)))
    skipM)) skipM)
    (seqM (asgM 2 (ifV (boolT (opN isND [.p 2, .v (cE .none)])) (cE .none) (opN addD [.p 2, .v (opN modD [.v (opN subD [.v (opN ixD [.p 1, .v (cE (.int 0))]), .p 2]), .v (opN ixD [.p 1, .v (cE (.int 1))])])])))
    (seqM (asgM 3 (ifV (boolT (opN isND [.p 3, .v (cE .none)])) (cE .none) (opN subD [.p 3, .v (opN modD [.v (opN subD [.p 3, .v (opN ixD [.p 1, .v (cE (.int 0))])]), .v (opN ixD [.p 1, .v (cE (.int 1))])])])))
    (seqM (retM (ifV (andT (boolT (opN notND [.p 2, .v (cE .none)])) (andT (boolT (opN notND [.p 3, .v (cE .none)])) (boolT (opN gtD [.p 2, .p 3])))) (cE .none) (tupV [(nameV 2), (nameV 3)])))
    skipM)))))
noncomputable def sem_tight_of : List D → Option D := semA 2 3 g_tight_of
theorem sc_tight_of : FnScope ["span", "rest", "low", "high", "holds"] ["span", "rest"] (defScope (top 32)) := ⟨rfl, rfl, rfl, by decide +kernel, rfl, by decide +kernel, by decide +kernel⟩
theorem b_tight_of {P : Program} {w : World} {K : FragK} {mg : Str → Option Value} {base : Heap}   :
    BodyOk P w K mg base ["span", "rest", "low", "high", "holds"] "tight_of" (defScope (top 32)) (defBody (top 32)) 0 (g_tight_of) := by
  intro f cdv A outer s H hr hg
  have st : Sit (BodyCx P w K mg base ["span", "rest", "low", "high", "holds"] "tight_of" (defScope (top 32)) f cdv A outer s H) 0 := ⟨hr, hg⟩
  exact (sss_cons (ss_asg (se_name (i := 0)) (sg_tup rfl (sgs_cons (sg_name (i := 2) sc_tight_of.nd rfl (by first | exact Or.inl rfl | exact Or.inr rfl)) (sgs_cons (sg_name (i := 3) sc_tight_of.nd rfl (by first | exact Or.inl rfl | exact Or.inr rfl)) sgs_nil))))
    (sss_cons (ss_if (sb_cmp (eq_ok st.units) (SE.a (se_ix (ix_ok st.units0) (sa_name (i := 1)) (SE.a se_int))) (SE.a se_int) rfl) (sss_cons (ss_set (i := 4) sc_tight_of.nd rfl (by first | exact Or.inl rfl | exact Or.inr rfl) (se_and (se_or (se_cmp isN_ok (sa_name (i := 2)) (SE.a se_non) rfl) (se_one (se_cmp le_ok (sa_name (i := 2)) (SE.a (se_ix (ix_ok st.units0) (sa_name (i := 1)) (SE.a se_int))) rfl))) (se_one (se_or (se_cmp isN_ok (sa_name (i := 3)) (SE.a se_non) rfl) (se_one (se_cmp le_ok (SE.a (se_ix (ix_ok st.units0) (sa_name (i := 1)) (SE.a se_int))) (sa_name (i := 3)) rfl))))))
    (sss_cons (ss_ret (se_if (sb_val (se_name (i := 4))) (se_tup (svs_cons (se_ix (ix_ok st.units0) (sa_name (i := 1)) (SE.a se_int)) (svs_cons (se_ix (ix_ok st.units0) (sa_name (i := 1)) (SE.a se_int)) svs_nil))) se_non))
    sss_nil)) sss_nil)
    (sss_cons (ss_set (i := 2) sc_tight_of.nd rfl (by first | exact Or.inl rfl | exact Or.inr rfl) (se_if (sb_cmp isN_ok (sa_name (i := 2)) (SE.a se_non) rfl) se_non (se_bin add_ok (sa_name (i := 2)) (SE.a (se_bin mod_ok (SE.a (se_bin sub_ok (SE.a (se_ix (ix_ok st.units0) (sa_name (i := 1)) (SE.a se_int))) (sa_name (i := 2)))) (SE.a (se_ix (ix_ok st.units0) (sa_name (i := 1)) (SE.a se_int))))))))
    (sss_cons (ss_set (i := 3) sc_tight_of.nd rfl (by first | exact Or.inl rfl | exact Or.inr rfl) (se_if (sb_cmp isN_ok (sa_name (i := 3)) (SE.a se_non) rfl) se_non (se_bin sub_ok (sa_name (i := 3)) (SE.a (se_bin mod_ok (SE.a (se_bin sub_ok (sa_name (i := 3)) (SE.a (se_ix (ix_ok st.units0) (sa_name (i := 1)) (SE.a se_int))))) (SE.a (se_ix (ix_ok st.units0) (sa_name (i := 1)) (SE.a se_int))))))))
    (sss_cons (ss_ret (se_if (sb_bool (sw_and (sb_cmp notN_ok (sa_name (i := 2)) (SE.a se_non) rfl) (sw_and (sb_cmp notN_ok (sa_name (i := 3)) (SE.a se_non) rfl) (sw_and1 (sb_cmp gt_ok (sa_name (i := 2)) (sa_name (i := 3)) rfl))))) se_non (se_tup (svs_cons (se_name (i := 2)) (svs_cons (se_name (i := 3)) svs_nil)))))
    sss_nil)))))
noncomputable def g_is_end : MS :=
    (seqM (retM (orV (opN isND [.p 0, .v (cE .none)]) (callA sem_is_whole [(nameV 0)])))
    skipM)
noncomputable def sem_is_end : List D → Option D := semA 1 0 g_is_end
theorem sc_is_end : FnScope ["value"] ["value"] (defScope (top 7)) := ⟨rfl, rfl, rfl, by decide +kernel, rfl, by decide +kernel, by decide +kernel⟩
theorem b_is_end {P : Program} {w : World} {K : FragK} {mg : Str → Option Value} {base : Heap}  (c_is_whole : Cl P w K mg base 1 "is_whole" ["value"] (spA K sem_is_whole)) :
    BodyOk P w K mg base ["value"] "is_end" (defScope (top 7)) (defBody (top 7)) 1 (g_is_end) := by
  intro f cdv A outer s H hr hg
  have st : Sit (BodyCx P w K mg base ["value"] "is_end" (defScope (top 7)) f cdv A outer s H) 1 := ⟨hr, hg⟩
  exact (sss_cons (ss_ret (se_or (se_cmp isN_ok (sa_name (i := 0)) (SE.a se_non) rfl) (se_one (se_ca c_is_whole (Sit.mk st.room st.gu) (svs_cons (se_name (i := 0)) svs_nil)))))
    sss_nil)
noncomputable def g_is_range : MS :=
    (seqM (ifM (orT (notT (boolT (opN (isiD .tup) [.p 0]))) (orT (boolT (opN neD [.v (opN lenD [.p 0]), .v (cE (.int 2))])) (orT (notT (boolT (callA sem_is_end [(opN ixD [.p 0, .v (cE (.int 0))])]))) (notT (boolT (callA sem_is_end [(opN ixD [.p 0, .v (cE (.int 1))])])))))) (seqM (retM (cE (.bool false)))
    skipM) skipM)
    (seqM (retM (orV (opN isND [.v (opN ixD [.p 0, .v (cE (.int 0))]), .v (cE .none)]) (orV (opN isND [.v (opN ixD [.p 0, .v (cE (.int 1))]), .v (cE .none)]) (opN leD [.v (opN ixD [.p 0, .v (cE (.int 0))]), .v (opN ixD [.p 0, .v (cE (.int 1))])]))))
    skipM))
noncomputable def sem_is_range : List D → Option D := semA 1 0 g_is_range
theorem sc_is_range : FnScope ["value"] ["value"] (defScope (top 8)) := ⟨rfl, rfl, rfl, by decide +kernel, rfl, by decide +kernel, by decide +kernel⟩
theorem b_is_range {P : Program} {w : World} {K : FragK} {mg : Str → Option Value} {base : Heap} (m_isinstance : mg "isinstance" = none) (m_tuple : mg "tuple" = none) (m_len : mg "len" = none) (c_is_end : Cl P w K mg base 2 "is_end" ["value"] (spA K sem_is_end)) :
    BodyOk P w K mg base ["value"] "is_range" (defScope (top 8)) (defBody (top 8)) 2 (g_is_range) := by
  intro f cdv A outer s H hr hg
  have st : Sit (BodyCx P w K mg base ["value"] "is_range" (defScope (top 8)) f cdv A outer s H) 2 := ⟨hr, hg⟩
  exact (sss_cons (ss_if (sb_bool (sw_or (sb_not (sb_val (se_isi .tup m_isinstance m_tuple (sa_name (i := 0)) (hv := bt_tuple)))) (sw_or (sb_cmp (ne_ok st.units) (SE.a (se_callB len_ok rfl m_len bt_len (sas_cons (sa_name (i := 0)) sas_nil))) (SE.a se_int) rfl) (sw_or (sb_not (sb_val (se_ca c_is_end (Sit.mk st.room st.gu) (svs_cons (se_ix (ix_ok st.units0) (sa_name (i := 0)) (SE.a se_int)) svs_nil)))) (sw_or1 (sb_not (sb_val (se_ca c_is_end (Sit.mk st.room st.gu) (svs_cons (se_ix (ix_ok st.units0) (sa_name (i := 0)) (SE.a se_int)) svs_nil))))))))) (sss_cons (ss_ret se_bl)
    sss_nil) sss_nil)
    (sss_cons (ss_ret (se_or (se_cmp isN_ok (SE.a (se_ix (ix_ok st.units0) (sa_name (i := 0)) (SE.a se_int))) (SE.a se_non) rfl) (se_or (se_cmp isN_ok (SE.a (se_ix (ix_ok st.units0) (sa_name (i := 0)) (SE.a se_int))) (SE.a se_non) rfl) (se_one (se_cmp le_ok (SE.a (se_ix (ix_ok st.units0) (sa_name (i := 0)) (SE.a se_int))) (SE.a (se_ix (ix_ok st.units0) (sa_name (i := 0)) (SE.a se_int))) rfl)))))
    sss_nil))
noncomputable def g_tight_range : MS :=
    (seqM (ifM (notT (boolT (callA sem_is_range [(nameV 0)]))) (seqM nevM
    skipM) skipM)
    (seqM (exprM (callA sem_check_rest [(nameV 1)]))
    (seqM (retM (callA sem_tight_of [(nameV 0), (nameV 1)]))
    skipM)))
noncomputable def sem_tight_range : List D → Option D := semA 2 0 g_tight_range
theorem sc_tight_range : FnScope ["span", "rest"] ["span", "rest"] (defScope (top 33)) := ⟨rfl, rfl, rfl, by decide +kernel, rfl, by decide +kernel, by decide +kernel⟩
theorem b_tight_range {P : Program} {w : World} {K : FragK} {mg : Str → Option Value} {base : Heap}  (c_is_range : Cl P w K mg base 3 "is_range" ["value"] (spA K sem_is_range)) (c_check_rest : Cl P w K mg base 3 "check_rest" ["rest"] (spA K sem_check_rest)) (c_tight_of : Cl P w K mg base 1 "tight_of" ["span", "rest"] (spA K sem_tight_of)) :
    BodyOk P w K mg base ["span", "rest"] "tight_range" (defScope (top 33)) (defBody (top 33)) 3 (g_tight_range) := by
  intro f cdv A outer s H hr hg
  have st : Sit (BodyCx P w K mg base ["span", "rest"] "tight_range" (defScope (top 33)) f cdv A outer s H) 3 := ⟨hr, hg⟩
  exact (sss_cons (ss_if (sb_not (sb_val (se_ca c_is_range (Sit.mk st.room st.gu) (svs_cons (se_name (i := 0)) svs_nil)))) (sss_cons ss_never
    sss_nil) sss_nil)
    (sss_cons (ss_expr (se_ca c_check_rest (Sit.mk st.room st.gu) (svs_cons (se_name (i := 1)) svs_nil)))
    (sss_cons (ss_ret (se_ca c_tight_of (Sit.mk st.room st.gu) (svs_cons (se_name (i := 0)) (svs_cons (se_name (i := 1)) svs_nil))))
    sss_nil)))
noncomputable def g__law_pick : MS :=
    (seqM (retM (opN ixD [.p 1, .v (callI sem__law_random 0 [(opN lenD [.p 1])])]))
    skipM)
noncomputable def sem__law_pick : D → List D → Option (D × D) := semI 1 0 g__law_pick
theorem sc__law_pick : FnScope ["generator", "things"] ["generator", "things"] (defScope (top 39)) := ⟨rfl, rfl, rfl, by decide +kernel, rfl, by decide +kernel, by decide +kernel⟩
theorem b__law_pick {P : Program} {w : World} {K : FragK} {mg : Str → Option Value} {base : Heap} (m_len : mg "len" = none) (c__law_random : Cl P w K mg base 2 "_law_random" ["generator", "bound"] (spI K sem__law_random)) :
    BodyOk P w K mg base ["generator", "things"] "_law_pick" (defScope (top 39)) (defBody (top 39)) 2 (g__law_pick) := by
  intro f cdv A outer s H hr hg
  have st : Sit (BodyCx P w K mg base ["generator", "things"] "_law_pick" (defScope (top 39)) f cdv A outer s H) 2 := ⟨hr, hg⟩
  exact (sss_cons (ss_ret (se_ix (ix_ok st.units0) (sa_name (i := 1)) (SE.a (se_ci (i := 0) c__law_random (Sit.mk st.room st.gu) (svs_cons (se_callB len_ok rfl m_len bt_len (sas_cons (sa_name (i := 1)) sas_nil)) svs_nil)))))
    sss_nil)
noncomputable def g__law_some_rest : MS :=
    (seqM (asgM 2 (callI sem__law_pick 0 [(lstV [(cE (.int 0)), (cE (.int 0)), (cE (.int 1)), (cE (.int 2)), (cE (.int 3)), (cE (.int 4)), (cE (.int 6)), (cE (.int 12)), (opN addD [.v (cE (.int 1)), .v (callI sem__law_random 0 [(nameV 1)])])])]))
    (seqM (retM (ifV (boolT (opN eqD [.p 2, .v (cE (.int 0))])) (tupV [(opN subD [.v (callI sem__law_random 0 [(opN addD [.v (opN mulD [.v (cE (.int 2)), .p 1]), .v (cE (.int 1))])]), .p 1]), (cE (.int 0))]) (tupV [(callI sem__law_random 0 [(nameV 2)]), (nameV 2)])))
    skipM))
noncomputable def sem__law_some_rest : D → List D → Option (D × D) := semI 1 1 g__law_some_rest
theorem sc__law_some_rest : FnScope ["generator", "far", "step"] ["generator", "far"] (defScope (top 45)) := ⟨rfl, rfl, rfl, by decide +kernel, rfl, by decide +kernel, by decide +kernel⟩
theorem b__law_some_rest {P : Program} {w : World} {K : FragK} {mg : Str → Option Value} {base : Heap}  (c__law_pick : Cl P w K mg base 3 "_law_pick" ["generator", "things"] (spI K sem__law_pick)) (c__law_random : Cl P w K mg base 2 "_law_random" ["generator", "bound"] (spI K sem__law_random)) :
    BodyOk P w K mg base ["generator", "far", "step"] "_law_some_rest" (defScope (top 45)) (defBody (top 45)) 3 (g__law_some_rest) := by
  intro f cdv A outer s H hr hg
  have st : Sit (BodyCx P w K mg base ["generator", "far", "step"] "_law_some_rest" (defScope (top 45)) f cdv A outer s H) 3 := ⟨hr, hg⟩
  exact (sss_cons (ss_set (i := 2) sc__law_some_rest.nd rfl (by first | exact Or.inl rfl | exact Or.inr rfl) (se_ci (i := 0) c__law_pick (Sit.mk st.room st.gu) (svs_cons (SF.se (sf_lst (svs_cons se_int (svs_cons se_int (svs_cons se_int (svs_cons se_int (svs_cons se_int (svs_cons se_int (svs_cons se_int (svs_cons se_int (svs_cons (se_bin add_ok (SE.a se_int) (SE.a (se_ci (i := 0) c__law_random (Sit.mk st.room st.gu) (svs_cons (se_name (i := 1)) svs_nil)))) svs_nil))))))))))) svs_nil)))
    (sss_cons (ss_ret (se_if (sb_cmp (eq_ok st.units) (sa_name (i := 2)) (SE.a se_int) rfl) (se_tup (svs_cons (se_bin sub_ok (SE.a (se_ci (i := 0) c__law_random (Sit.mk st.room st.gu) (svs_cons (se_bin add_ok (SE.a (se_bin mul_ok (SE.a se_int) (sa_name (i := 1)))) (SE.a se_int)) svs_nil))) (sa_name (i := 1))) (svs_cons se_int svs_nil))) (se_tup (svs_cons (se_ci (i := 0) c__law_random (Sit.mk st.room st.gu) (svs_cons (se_name (i := 2)) svs_nil)) (svs_cons (se_name (i := 2)) svs_nil)))))
    sss_nil))
noncomputable def cc__law_numbers_1 : MT :=
    (boolT (callA sem__law_in [(nameV 0), (nameV 3)]))
noncomputable def ce__law_numbers_2 : ME :=
    (nameV 3)
noncomputable def g__law_numbers : MS :=
    (seqM (retM (lcV (itRng2 (nameV 1) (nameV 2)) [3] (tgName 3) cc__law_numbers_1 ce__law_numbers_2))
    skipM)
noncomputable def sem__law_numbers : List D → Option D := semA 3 1 g__law_numbers
theorem sc__law_numbers : FnScope ["rest", "low", "high", "number"] ["rest", "low", "high"] (defScope (top 46)) := ⟨rfl, rfl, rfl, by decide +kernel, rfl, by decide +kernel, by decide +kernel⟩
theorem b__law_numbers {P : Program} {w : World} {K : FragK} {mg : Str → Option Value} {base : Heap} (m_range : mg "range" = none) (c__law_in : Cl P w K mg base 1 "_law_in" ["rest", "number"] (spA K sem__law_in)) :
    BodyOk P w K mg base ["rest", "low", "high", "number"] "_law_numbers" (defScope (top 46)) (defBody (top 46)) 1 (g__law_numbers) := by
  intro f cdv A outer s H hr hg
  have st : Sit (BodyCx P w K mg base ["rest", "low", "high", "number"] "_law_numbers" (defScope (top 46)) f cdv A outer s H) 1 := ⟨hr, hg⟩
  exact (sss_cons (ss_ret (SF.se (sf_lc (own := [("number", 3)]) rfl sc__law_numbers.nd (si_rng2 rfl m_range (se_name (i := 1)) (se_name (i := 2))) (blkB_ok (by kernel_rfl)) (by decide) (fun _ _ _ _ _ => (sg_name (i := 3) sc__law_numbers.nd rfl (by first | exact Or.inl rfl | exact Or.inr rfl))) (fun _ _ _ _ _ => (sps_one (sb_val (se_ca c__law_in (Sit.mk st.room st.gu) (svs_cons (se_name (i := 0)) (svs_cons (se_name (i := 3)) svs_nil)))))) (fun _ _ _ _ _ => (se_name (i := 3))))))
    sss_nil)
noncomputable def g_within_rest : MS :=
    (seqM (ifM (boolT (opN eqD [.v (opN ixD [.p 1, .v (cE (.int 1))]), .v (cE (.int 0))])) (seqM (retM (opN eqD [.p 0, .p 1]))
    skipM) skipM)
    (seqM (retM (andV (callA sem_in_rest [(nameV 1), (opN ixD [.p 0, .v (cE (.int 0))])]) (opN eqD [.v (opN modD [.v (opN ixD [.p 0, .v (cE (.int 1))]), .v (opN ixD [.p 1, .v (cE (.int 1))])]), .v (cE (.int 0))])))
    skipM))
noncomputable def sem_within_rest : List D → Option D := semA 2 0 g_within_rest
theorem sc_within_rest : FnScope ["rest", "other"] ["rest", "other"] (defScope (top 16)) := ⟨rfl, rfl, rfl, by decide +kernel, rfl, by decide +kernel, by decide +kernel⟩
theorem b_within_rest {P : Program} {w : World} {K : FragK} {mg : Str → Option Value} {base : Heap}  (c_in_rest : Cl P w K mg base 1 "in_rest" ["rest", "number"] (spA K sem_in_rest)) :
    BodyOk P w K mg base ["rest", "other"] "within_rest" (defScope (top 16)) (defBody (top 16)) 1 (g_within_rest) := by
  intro f cdv A outer s H hr hg
  have st : Sit (BodyCx P w K mg base ["rest", "other"] "within_rest" (defScope (top 16)) f cdv A outer s H) 1 := ⟨hr, hg⟩
  exact (sss_cons (ss_if (sb_cmp (eq_ok st.units) (SE.a (se_ix (ix_ok st.units0) (sa_name (i := 1)) (SE.a se_int))) (SE.a se_int) rfl) (sss_cons (ss_ret (se_cmp (eq_ok st.units) (sa_name (i := 0)) (sa_name (i := 1)) rfl))
    sss_nil) sss_nil)
    (sss_cons (ss_ret (se_and (se_ca c_in_rest (Sit.mk st.room st.gu) (svs_cons (se_name (i := 1)) (svs_cons (se_ix (ix_ok st.units0) (sa_name (i := 0)) (SE.a se_int)) svs_nil))) (se_one (se_cmp (eq_ok st.units) (SE.a (se_bin mod_ok (SE.a (se_ix (ix_ok st.units0) (sa_name (i := 0)) (SE.a se_int))) (SE.a (se_ix (ix_ok st.units0) (sa_name (i := 1)) (SE.a se_int))))) (SE.a se_int) rfl))))
    sss_nil))
noncomputable def g_rest_within : MS :=
    (seqM (exprM (callA sem_check_two_rests [(nameV 0), (nameV 1)]))
    (seqM (retM (callA sem_within_rest [(nameV 0), (nameV 1)]))
    skipM))
noncomputable def sem_rest_within : List D → Option D := semA 2 0 g_rest_within
theorem sc_rest_within : FnScope ["rest", "other"] ["rest", "other"] (defScope (top 25)) := ⟨rfl, rfl, rfl, by decide +kernel, rfl, by decide +kernel, by decide +kernel⟩
theorem b_rest_within {P : Program} {w : World} {K : FragK} {mg : Str → Option Value} {base : Heap}  (c_check_two_rests : Cl P w K mg base 4 "check_two_rests" ["rest", "other"] (spA K sem_check_two_rests)) (c_within_rest : Cl P w K mg base 2 "within_rest" ["rest", "other"] (spA K sem_within_rest)) :
    BodyOk P w K mg base ["rest", "other"] "rest_within" (defScope (top 25)) (defBody (top 25)) 4 (g_rest_within) := by
  intro f cdv A outer s H hr hg
  have st : Sit (BodyCx P w K mg base ["rest", "other"] "rest_within" (defScope (top 25)) f cdv A outer s H) 4 := ⟨hr, hg⟩
  exact (sss_cons (ss_expr (se_ca c_check_two_rests (Sit.mk st.room st.gu) (svs_cons (se_name (i := 0)) (svs_cons (se_name (i := 1)) svs_nil))))
    (sss_cons (ss_ret (se_ca c_within_rest (Sit.mk st.room st.gu) (svs_cons (se_name (i := 0)) (svs_cons (se_name (i := 1)) svs_nil))))
    sss_nil))
noncomputable def cc__law_window_right_1 : MT :=
    (boolT (opN inD [.p 11, .p 5]))
noncomputable def ce__law_window_right_2 : ME :=
    (nameV 11)
noncomputable def cc__law_window_right_3 : MT :=
    (boolT (opN inD [.p 11, .p 5]))
noncomputable def ce__law_window_right_4 : ME :=
    (nameV 11)
noncomputable def cc__law_window_right_5 : MT :=
    (notT (boolT (callA sem__law_in [(nameV 8), (nameV 11)])))
noncomputable def ce__law_window_right_6 : ME :=
    (nameV 11)
noncomputable def ce__law_window_right_7 : ME :=
    (opN modD [.v (opN intD [.p 11]), .p 9])
noncomputable def fb__law_window_right_8 : MS :=
    (seqM (ifM (boolT (opN eqD [.v (opN lenSetD [.v (lcV (itSeq (opN addD [.p 4, .p 5])) [11] (tgName 11) yesT ce__law_window_right_7)]), .v (cE (.int 1))])) (seqM (retM (cE (.bool false)))
    skipM) skipM)
    skipM)
noncomputable def cc__law_window_right_9 : MT :=
    (boolT (opN notInD [.p 11, .p 5]))
noncomputable def ce__law_window_right_10 : ME :=
    (nameV 11)
noncomputable def g__law_window_right : MS :=
    (seqM (asgM 3 (opN addD [.v (opN mulD [.v (opN mulD [.v (cE (.int 2)), .v (opN max2D [.v (opN ixD [.p 1, .v (cE (.int 1))]), .v (cE (.int 1))])]), .v (opN max2D [.v (opN ixD [.p 2, .v (cE (.int 1))]), .v (cE (.int 1))])]), .v (cE (.int 60))]))
    (seqM (asgT (tupV [(callA sem__law_numbers [(nameV 1), (opN negD [.p 3]), (nameV 3)]), (callA sem__law_numbers [(nameV 2), (opN negD [.p 3]), (nameV 3)])]) (tgTup 2 (tgCons (tgName 4) (tgCons (tgName 5) tgNil))))
    (seqM (asgM 6 (lcV (itSeq (nameV 4)) [11] (tgName 11) cc__law_window_right_3 ce__law_window_right_4))
    (seqM (asgT (tupV [(callA sem_rest_met [(nameV 1), (nameV 2)]), (callA sem_rest_joined [(nameV 1), (nameV 2)])]) (tgTup 2 (tgCons (tgName 7) (tgCons (tgName 8) tgNil))))
    (seqM (ifM (orT (notT (boolT (callA (sem__law_same 12) [(lstV [(callK sem_rest_met [1, 0] [(nameV 2), (nameV 1)]), (callK sem_rest_joined [1, 0] [(nameV 2), (nameV 1)])]), (lstV [(nameV 7), (nameV 8)])]))) (boolT (opN neD [.v (opN isND [.p 7, .v (cE .none)]), .v (opN eqD [.p 6, .v (lstV [])])]))) (seqM (retM (cE (.bool false)))
    skipM) skipM)
    (seqM (ifM (andT (boolT (opN notND [.p 7, .v (cE .none)])) (orT (boolT (opN notBD [.v (callA sem_is_rest [(nameV 7)]), .v (cE (.bool true))])) (boolT (opN neD [.v (callA sem__law_numbers [(nameV 7), (opN negD [.p 3]), (nameV 3)]), .p 6])))) (seqM (retM (cE (.bool false)))
    skipM) skipM)
    (seqM (ifM (orT (boolT (opN notBD [.v (callA sem_is_rest [(nameV 8)]), .v (cE (.bool true))])) (boolT (opN neD [.v (lcV (itSeq (opN addD [.p 4, .p 5])) [11] (tgName 11) cc__law_window_right_5 ce__law_window_right_6), .v (lstV [])]))) (seqM (retM (cE (.bool false)))
    skipM) skipM)
    (seqM (forM' (itSeq (opN repD [.v (opN rngLD [.v (opN addD [.v (opN ixD [.p 8, .v (cE (.int 1))]), .v (cE (.int 1))]), .v (opN addD [.v (opN ixD [.p 8, .v (cE (.int 1))]), .v (cE (.int 40))])]), .v (opN intD [.v (opN gtD [.v (opN ixD [.p 8, .v (cE (.int 1))]), .v (cE (.int 0))])])])) (tgName 9) fb__law_window_right_8)
    (seqM (asgM 10 (opN eqD [.v (lcV (itSeq (nameV 4)) [11] (tgName 11) cc__law_window_right_9 ce__law_window_right_10), .v (lstV [])]))
    (seqM (ifM (notT (boolT (callA (sem__law_same 12) [(lstV [(callA sem_rest_within [(nameV 1), (nameV 2)]), (callK sem_rest_within [1, 0] [(nameV 2), (nameV 1)])]), (lstV [(nameV 10), (nameV 10)])]))) (seqM (retM (cE (.bool false)))
    skipM) skipM)
    (seqM (retM (callA (sem__law_same 12) [(lstV [(callA sem_rest_met [(nameV 2), (nameV 1)]), (callA sem_rest_joined [(nameV 2), (nameV 1)]), (callA sem_rest_within [(nameV 1), (nameV 8)]), (callA sem_rest_within [(nameV 2), (nameV 8)])]), (lstV [(nameV 7), (nameV 8), (cE (.bool true)), (cE (.bool true))])]))
    skipM)))))))))))
noncomputable def sem__law_window_right : List D → Option D := semA 3 9 g__law_window_right
theorem sc__law_window_right : FnScope ["generator", "rest", "other", "high", "one", "two", "both", "met", "joined", "step", "within", "number"] ["generator", "rest", "other"] (defScope (top 47)) := ⟨rfl, rfl, rfl, by decide +kernel, rfl, by decide +kernel, by decide +kernel⟩
theorem b__law_window_right {P : Program} {w : World} {K : FragK} {mg : Str → Option Value} {base : Heap} (m_max : mg "max" = none) (m_list : mg "list" = none) (m_range : mg "range" = none) (m_int : mg "int" = none) (m_len : mg "len" = none) (m_set : mg "set" = none) (c__law_numbers : Cl P w K mg base 2 "_law_numbers" ["rest", "low", "high"] (spA K sem__law_numbers)) (c_rest_met : Cl P w K mg base 5 "rest_met" ["rest", "other"] (spA K sem_rest_met)) (c_rest_joined : Cl P w K mg base 5 "rest_joined" ["rest", "other"] (spA K sem_rest_joined)) (c__law_same : Cl P w K mg base 12 "_law_same" ["found", "due"] (spA K (sem__law_same 12))) (ck0_rest_met : ClK P w K mg base 5 "rest_met" ["rest", "other"] 0 ["other", "rest"] [1, 0] (spA K sem_rest_met)) (ck0_rest_joined : ClK P w K mg base 5 "rest_joined" ["rest", "other"] 0 ["other", "rest"] [1, 0] (spA K sem_rest_joined)) (c_is_rest : Cl P w K mg base 2 "is_rest" ["value"] (spA K sem_is_rest)) (c__law_in : Cl P w K mg base 1 "_law_in" ["rest", "number"] (spA K sem__law_in)) (c_rest_within : Cl P w K mg base 5 "rest_within" ["rest", "other"] (spA K sem_rest_within)) (ck0_rest_within : ClK P w K mg base 5 "rest_within" ["rest", "other"] 0 ["other", "rest"] [1, 0] (spA K sem_rest_within)) :
    BodyOk P w K mg base ["generator", "rest", "other", "high", "one", "two", "both", "met", "joined", "step", "within", "number"] "_law_window_right" (defScope (top 47)) (defBody (top 47)) 12 (g__law_window_right) := by
  intro f cdv A outer s H hr hg
  have st : Sit (BodyCx P w K mg base ["generator", "rest", "other", "high", "one", "two", "both", "met", "joined", "step", "within", "number"] "_law_window_right" (defScope (top 47)) f cdv A outer s H) 12 := ⟨hr, hg⟩
  exact (sss_cons (ss_set (i := 3) sc__law_window_right.nd rfl (by first | exact Or.inl rfl | exact Or.inr rfl) (se_bin add_ok (SE.a (se_bin mul_ok (SE.a (se_bin mul_ok (SE.a se_int) (SE.a (se_callB (max2_ok rfl) rfl m_max bt_max (sas_cons (SE.a (se_ix (ix_ok st.units0) (sa_name (i := 1)) (SE.a se_int))) (sas_cons (SE.a se_int) sas_nil)))))) (SE.a (se_callB (max2_ok rfl) rfl m_max bt_max (sas_cons (SE.a (se_ix (ix_ok st.units0) (sa_name (i := 2)) (SE.a se_int))) (sas_cons (SE.a se_int) sas_nil)))))) (SE.a se_int)))
    (sss_cons (ss_asg (se_tup (svs_cons (se_ca c__law_numbers (Sit.mk st.room st.gu) (svs_cons (se_name (i := 1)) (svs_cons (se_un neg_ok (sa_name (i := 3))) (svs_cons (se_name (i := 3)) svs_nil)))) (svs_cons (se_ca c__law_numbers (Sit.mk st.room st.gu) (svs_cons (se_name (i := 2)) (svs_cons (se_un neg_ok (sa_name (i := 3))) (svs_cons (se_name (i := 3)) svs_nil)))) svs_nil))) (sg_tup rfl (sgs_cons (sg_name (i := 4) sc__law_window_right.nd rfl (by first | exact Or.inl rfl | exact Or.inr rfl)) (sgs_cons (sg_name (i := 5) sc__law_window_right.nd rfl (by first | exact Or.inl rfl | exact Or.inr rfl)) sgs_nil))))
    (sss_cons (ss_lc (i := 6) (own := [("number", 11)]) rfl sc__law_window_right.nd rfl rfl (by rfl) (si_seq (se_name (i := 4))) (blkB_ok (by kernel_rfl)) (by decide) (fun _ _ _ _ _ => (sg_name (i := 11) sc__law_window_right.nd rfl (by first | exact Or.inl rfl | exact Or.inr rfl))) (fun _ _ _ _ _ => (sps_one (sb_cmp (in_ok st.units1) (sa_name (i := 11)) (sa_name (i := 5)) rfl))) (fun _ _ _ _ _ => (se_name (i := 11))))
    (sss_cons (ss_asg (se_tup (svs_cons (se_ca c_rest_met (Sit.mk st.room st.gu) (svs_cons (se_name (i := 1)) (svs_cons (se_name (i := 2)) svs_nil))) (svs_cons (se_ca c_rest_joined (Sit.mk st.room st.gu) (svs_cons (se_name (i := 1)) (svs_cons (se_name (i := 2)) svs_nil))) svs_nil))) (sg_tup rfl (sgs_cons (sg_name (i := 7) sc__law_window_right.nd rfl (by first | exact Or.inl rfl | exact Or.inr rfl)) (sgs_cons (sg_name (i := 8) sc__law_window_right.nd rfl (by first | exact Or.inl rfl | exact Or.inr rfl)) sgs_nil))))
    (sss_cons (ss_if (sb_bool (sw_or (sb_not (sb_val (se_ca c__law_same (Sit.mk st.room st.gu) (svs_cons (SF.se (sf_lst (svs_cons (se_ck0 ck0_rest_met (Sit.mk st.room st.gu) (svk_cons (se_name (i := 2)) (svk_cons (se_name (i := 1)) svk_nil))) (svs_cons (se_ck0 ck0_rest_joined (Sit.mk st.room st.gu) (svk_cons (se_name (i := 2)) (svk_cons (se_name (i := 1)) svk_nil))) svs_nil)))) (svs_cons (SF.se (sf_lst (svs_cons (se_name (i := 7)) (svs_cons (se_name (i := 8)) svs_nil)))) svs_nil))))) (sw_or1 (sb_cmp (ne_ok st.units) (SE.a (se_cmp isN_ok (sa_name (i := 7)) (SE.a se_non) rfl)) (SE.a (se_cmp (eq_ok st.units) (sa_name (i := 6)) (SE.a (SF.se (sf_lst svs_nil))) rfl)) rfl)))) (sss_cons (ss_ret se_bl)
    sss_nil) sss_nil)
    (sss_cons (ss_if (sb_bool (sw_and (sb_cmp notN_ok (sa_name (i := 7)) (SE.a se_non) rfl) (sw_and1 (sb_bool (sw_or (sb_cmp notB_ok (SE.a (se_ca c_is_rest (Sit.mk st.room st.gu) (svs_cons (se_name (i := 7)) svs_nil))) (SE.a se_bl) rfl) (sw_or1 (sb_cmp (ne_ok st.units) (SE.a (se_ca c__law_numbers (Sit.mk st.room st.gu) (svs_cons (se_name (i := 7)) (svs_cons (se_un neg_ok (sa_name (i := 3))) (svs_cons (se_name (i := 3)) svs_nil))))) (sa_name (i := 6)) rfl))))))) (sss_cons (ss_ret se_bl)
    sss_nil) sss_nil)
    (sss_cons (ss_if (sb_bool (sw_or (sb_cmp notB_ok (SE.a (se_ca c_is_rest (Sit.mk st.room st.gu) (svs_cons (se_name (i := 8)) svs_nil))) (SE.a se_bl) rfl) (sw_or1 (sb_cmp (ne_ok st.units) (SE.a (SF.se (sf_lc (own := [("number", 11)]) rfl sc__law_window_right.nd (si_seq (se_bin add_ok (sa_name (i := 4)) (sa_name (i := 5)))) (blkB_ok (by kernel_rfl)) (by decide) (fun _ _ _ _ _ => (sg_name (i := 11) sc__law_window_right.nd rfl (by first | exact Or.inl rfl | exact Or.inr rfl))) (fun _ _ _ _ _ => (sps_one (sb_not (sb_val (se_ca c__law_in (Sit.mk st.room st.gu) (svs_cons (se_name (i := 8)) (svs_cons (se_name (i := 11)) svs_nil))))))) (fun _ _ _ _ _ => (se_name (i := 11)))))) (SE.a (SF.se (sf_lst svs_nil))) rfl)))) (sss_cons (ss_ret se_bl)
    sss_nil) sss_nil)
    (sss_cons (ss_for PassesOwn.never rfl (si_seq (SF.se (sf_bin rep_okF (SE.a (SF.se (sf_listRng rfl m_list m_range (SE.a (se_bin add_ok (SE.a (se_ix (ix_ok st.units0) (sa_name (i := 8)) (SE.a se_int))) (SE.a se_int))) (SE.a (se_bin add_ok (SE.a (se_ix (ix_ok st.units0) (sa_name (i := 8)) (SE.a se_int))) (SE.a se_int)))))) (SE.a (se_callT int_ok rfl m_int bt_int (sas_cons (SE.a (se_cmp gt_ok (SE.a (se_ix (ix_ok st.units0) (sa_name (i := 8)) (SE.a se_int))) (SE.a se_int) rfl)) sas_nil)))))) (sg_name (i := 9) sc__law_window_right.nd rfl (by first | exact Or.inl rfl | exact Or.inr rfl)) (sss_cons (ss_if (sb_cmp (eq_ok st.units) (SE.a (se_lenSet rfl m_len m_set (SE.a (SF.se (sf_lc (own := [("number", 11)]) rfl sc__law_window_right.nd (si_seq (se_bin add_ok (sa_name (i := 4)) (sa_name (i := 5)))) (blkB_ok (by kernel_rfl)) (by decide) (fun _ _ _ _ _ => (sg_name (i := 11) sc__law_window_right.nd rfl (by first | exact Or.inl rfl | exact Or.inr rfl))) (fun _ _ _ _ _ => sps_nil) (fun _ _ _ _ _ => (se_bin mod_ok (SE.a (se_callT int_ok rfl m_int bt_int (sas_cons (sa_name (i := 11)) sas_nil))) (sa_name (i := 9))))))))) (SE.a se_int) rfl) (sss_cons (ss_ret se_bl)
    sss_nil) sss_nil)
    sss_nil))
    (sss_cons (ss_set (i := 10) sc__law_window_right.nd rfl (by first | exact Or.inl rfl | exact Or.inr rfl) (se_cmp (eq_ok st.units) (SE.a (SF.se (sf_lc (own := [("number", 11)]) rfl sc__law_window_right.nd (si_seq (se_name (i := 4))) (blkB_ok (by kernel_rfl)) (by decide) (fun _ _ _ _ _ => (sg_name (i := 11) sc__law_window_right.nd rfl (by first | exact Or.inl rfl | exact Or.inr rfl))) (fun _ _ _ _ _ => (sps_one (sb_cmp (notIn_ok st.units1) (sa_name (i := 11)) (sa_name (i := 5)) rfl))) (fun _ _ _ _ _ => (se_name (i := 11)))))) (SE.a (SF.se (sf_lst svs_nil))) rfl))
    (sss_cons (ss_if (sb_not (sb_val (se_ca c__law_same (Sit.mk st.room st.gu) (svs_cons (SF.se (sf_lst (svs_cons (se_ca c_rest_within (Sit.mk st.room st.gu) (svs_cons (se_name (i := 1)) (svs_cons (se_name (i := 2)) svs_nil))) (svs_cons (se_ck0 ck0_rest_within (Sit.mk st.room st.gu) (svk_cons (se_name (i := 2)) (svk_cons (se_name (i := 1)) svk_nil))) svs_nil)))) (svs_cons (SF.se (sf_lst (svs_cons (se_name (i := 10)) (svs_cons (se_name (i := 10)) svs_nil)))) svs_nil))))) (sss_cons (ss_ret se_bl)
    sss_nil) sss_nil)
    (sss_cons (ss_ret (se_ca c__law_same (Sit.mk st.room st.gu) (svs_cons (SF.se (sf_lst (svs_cons (se_ca c_rest_met (Sit.mk st.room st.gu) (svs_cons (se_name (i := 2)) (svs_cons (se_name (i := 1)) svs_nil))) (svs_cons (se_ca c_rest_joined (Sit.mk st.room st.gu) (svs_cons (se_name (i := 2)) (svs_cons (se_name (i := 1)) svs_nil))) (svs_cons (se_ca c_rest_within (Sit.mk st.room st.gu) (svs_cons (se_name (i := 1)) (svs_cons (se_name (i := 8)) svs_nil))) (svs_cons (se_ca c_rest_within (Sit.mk st.room st.gu) (svs_cons (se_name (i := 2)) (svs_cons (se_name (i := 8)) svs_nil))) svs_nil)))))) (svs_cons (SF.se (sf_lst (svs_cons (se_name (i := 7)) (svs_cons (se_name (i := 8)) (svs_cons se_bl (svs_cons se_bl svs_nil)))))) svs_nil))))
    sss_nil)))))))))))
noncomputable def g__law_of_span : MS :=
    (seqM (retM (ifV (andT (boolT (opN notND [.v (opN ixD [.p 0, .v (cE (.int 0))]), .v (cE .none)])) (boolT (opN eqD [.v (opN ixD [.p 0, .v (cE (.int 0))]), .v (opN ixD [.p 0, .v (cE (.int 1))])]))) (tupV [(opN ixD [.p 0, .v (cE (.int 0))]), (cE (.int 0))]) (tupV [(cE (.int 0)), (cE (.int 1))])))
    skipM)
noncomputable def sem__law_of_span : List D → Option D := semA 1 0 g__law_of_span
theorem sc__law_of_span : FnScope ["span"] ["span"] (defScope (top 44)) := ⟨rfl, rfl, rfl, by decide +kernel, rfl, by decide +kernel, by decide +kernel⟩
theorem b__law_of_span {P : Program} {w : World} {K : FragK} {mg : Str → Option Value} {base : Heap}   :
    BodyOk P w K mg base ["span"] "_law_of_span" (defScope (top 44)) (defBody (top 44)) 0 (g__law_of_span) := by
  intro f cdv A outer s H hr hg
  have st : Sit (BodyCx P w K mg base ["span"] "_law_of_span" (defScope (top 44)) f cdv A outer s H) 0 := ⟨hr, hg⟩
  exact (sss_cons (ss_ret (se_if (sb_bool (sw_and (sb_cmp notN_ok (SE.a (se_ix (ix_ok st.units0) (sa_name (i := 0)) (SE.a se_int))) (SE.a se_non) rfl) (sw_and1 (sb_cmp (eq_ok st.units) (SE.a (se_ix (ix_ok st.units0) (sa_name (i := 0)) (SE.a se_int))) (SE.a (se_ix (ix_ok st.units0) (sa_name (i := 0)) (SE.a se_int))) rfl)))) (se_tup (svs_cons (se_ix (ix_ok st.units0) (sa_name (i := 0)) (SE.a se_int)) (svs_cons se_int svs_nil))) (se_tup (svs_cons se_int (svs_cons se_int svs_nil)))))
    sss_nil)
noncomputable def g_rest_of_span : MS :=
    (seqM (retM (ifV (andT (boolT (opN notND [.v (opN ixD [.p 0, .v (cE (.int 0))]), .v (cE .none)])) (boolT (opN eqD [.v (opN ixD [.p 0, .v (cE (.int 0))]), .v (opN ixD [.p 0, .v (cE (.int 1))])]))) (tupV [(opN ixD [.p 0, .v (cE (.int 0))]), (cE (.int 0))]) (tupV [(cE (.int 0)), (cE (.int 1))])))
    skipM)
noncomputable def sem_rest_of_span : List D → Option D := semA 1 0 g_rest_of_span
theorem sc_rest_of_span : FnScope ["span"] ["span"] (defScope (top 22)) := ⟨rfl, rfl, rfl, by decide +kernel, rfl, by decide +kernel, by decide +kernel⟩
theorem b_rest_of_span {P : Program} {w : World} {K : FragK} {mg : Str → Option Value} {base : Heap}   :
    BodyOk P w K mg base ["span"] "rest_of_span" (defScope (top 22)) (defBody (top 22)) 0 (g_rest_of_span) := by
  intro f cdv A outer s H hr hg
  have st : Sit (BodyCx P w K mg base ["span"] "rest_of_span" (defScope (top 22)) f cdv A outer s H) 0 := ⟨hr, hg⟩
  exact (sss_cons (ss_ret (se_if (sb_bool (sw_and (sb_cmp notN_ok (SE.a (se_ix (ix_ok st.units0) (sa_name (i := 0)) (SE.a se_int))) (SE.a se_non) rfl) (sw_and1 (sb_cmp (eq_ok st.units) (SE.a (se_ix (ix_ok st.units0) (sa_name (i := 0)) (SE.a se_int))) (SE.a (se_ix (ix_ok st.units0) (sa_name (i := 0)) (SE.a se_int))) rfl)))) (se_tup (svs_cons (se_ix (ix_ok st.units0) (sa_name (i := 0)) (SE.a se_int)) (svs_cons se_int svs_nil))) (se_tup (svs_cons se_int (svs_cons se_int svs_nil)))))
    sss_nil)
noncomputable def g_rest_of_range : MS :=
    (seqM (ifM (notT (boolT (callA sem_is_range [(nameV 0)]))) (seqM nevM
    skipM) skipM)
    (seqM (retM (callA sem_rest_of_span [(nameV 0)]))
    skipM))
noncomputable def sem_rest_of_range : List D → Option D := semA 1 0 g_rest_of_range
theorem sc_rest_of_range : FnScope ["span"] ["span"] (defScope (top 30)) := ⟨rfl, rfl, rfl, by decide +kernel, rfl, by decide +kernel, by decide +kernel⟩
theorem b_rest_of_range {P : Program} {w : World} {K : FragK} {mg : Str → Option Value} {base : Heap}  (c_is_range : Cl P w K mg base 3 "is_range" ["value"] (spA K sem_is_range)) (c_rest_of_span : Cl P w K mg base 1 "rest_of_span" ["span"] (spA K sem_rest_of_span)) :
    BodyOk P w K mg base ["span"] "rest_of_range" (defScope (top 30)) (defBody (top 30)) 3 (g_rest_of_range) := by
  intro f cdv A outer s H hr hg
  have st : Sit (BodyCx P w K mg base ["span"] "rest_of_range" (defScope (top 30)) f cdv A outer s H) 3 := ⟨hr, hg⟩
  exact (sss_cons (ss_if (sb_not (sb_val (se_ca c_is_range (Sit.mk st.room st.gu) (svs_cons (se_name (i := 0)) svs_nil)))) (sss_cons ss_never
    sss_nil) sss_nil)
    (sss_cons (ss_ret (se_ca c_rest_of_span (Sit.mk st.room st.gu) (svs_cons (se_name (i := 0)) svs_nil)))
    sss_nil))
noncomputable def cc__law_range_right_1 : MT :=
    (andT (boolT (callA sem__law_in [(nameV 1), (nameV 11)])) (andT (orT (boolT (opN isND [.v (opN ixD [.p 4, .v (cE (.int 0))]), .v (cE .none)])) (boolT (opN geD [.p 11, .v (opN ixD [.p 4, .v (cE (.int 0))])]))) (orT (boolT (opN isND [.v (opN ixD [.p 4, .v (cE (.int 1))]), .v (cE .none)])) (boolT (opN leD [.p 11, .v (opN ixD [.p 4, .v (cE (.int 1))])])))))
noncomputable def ce__law_range_right_2 : ME :=
    (nameV 11)
noncomputable def cc__law_range_right_3 : MT :=
    (andT (boolT (callA sem__law_in [(nameV 1), (nameV 11)])) (andT (orT (boolT (opN isND [.v (opN ixD [.p 4, .v (cE (.int 0))]), .v (cE .none)])) (boolT (opN geD [.p 11, .v (opN ixD [.p 4, .v (cE (.int 0))])]))) (orT (boolT (opN isND [.v (opN ixD [.p 4, .v (cE (.int 1))]), .v (cE .none)])) (boolT (opN leD [.p 11, .v (opN ixD [.p 4, .v (cE (.int 1))])])))))
noncomputable def ce__law_range_right_4 : ME :=
    (nameV 11)
noncomputable def fb__law_range_right_5 : MS :=
    (seqM (asgM 5 (callA sem__law_of_span [(nameV 4)]))
    (seqM (ifM (notT (boolT (callA (sem__law_same 12) [(lstV [(callA sem_rest_of_range [(nameV 4)]), (callK sem_rest_of_range [0] [(nameV 4)])]), (lstV [(nameV 5), (nameV 5)])]))) (seqM (retM (cE (.bool false)))
    skipM) skipM)
    (seqM (asgM 6 (callA sem_tight_range [(nameV 4), (nameV 1)]))
    (seqM (ifM (notT (boolT (callA (sem__law_same 12) [(nameV 6), (callK sem_tight_range [1, 0] [(nameV 1), (nameV 4)])]))) (seqM (retM (cE (.bool false)))
    skipM) skipM)
    (seqM (parM 7 8 (ifV (boolT (opN isND [.v (opN ixD [.p 4, .v (cE (.int 0))]), .v (cE .none)])) (nameV 3) (opN ixD [.p 4, .v (cE (.int 0))])) (ifV (boolT (opN isND [.v (opN ixD [.p 4, .v (cE (.int 1))]), .v (cE .none)])) (nameV 3) (opN ixD [.p 4, .v (cE (.int 1))])))
    (seqM (asgM 9 (lcV (itRng2 (opN subD [.v (opN subD [.p 7, .v (opN ixD [.p 1, .v (cE (.int 1))])]), .v (cE (.int 45))]) (opN addD [.v (opN addD [.p 8, .v (opN ixD [.p 1, .v (cE (.int 1))])]), .v (cE (.int 45))])) [11] (tgName 11) cc__law_range_right_3 ce__law_range_right_4))
    (seqM (ifM (boolT (opN eqD [.v (opN ixD [.p 1, .v (cE (.int 1))]), .v (cE (.int 0))])) (seqM (asgM 10 (andV (orV (opN isND [.v (opN ixD [.p 4, .v (cE (.int 0))]), .v (cE .none)]) (opN leD [.v (opN ixD [.p 4, .v (cE (.int 0))]), .v (opN ixD [.p 1, .v (cE (.int 0))])])) (orV (opN isND [.v (opN ixD [.p 4, .v (cE (.int 1))]), .v (cE .none)]) (opN leD [.v (opN ixD [.p 1, .v (cE (.int 0))]), .v (opN ixD [.p 4, .v (cE (.int 1))])]))))
    (seqM (ifM (notT (boolT (callA (sem__law_same 12) [(nameV 6), (ifV (boolT (nameV 10)) (tupV [(opN ixD [.p 1, .v (cE (.int 0))]), (opN ixD [.p 1, .v (cE (.int 0))])]) (cE .none))]))) (seqM (retM (cE (.bool false)))
    skipM) skipM)
    skipM)) (seqM (ifM (notT (boolT (callA (sem__law_same 12) [(nameV 6), (ifV (boolT (opN eqD [.p 9, .v (lstV [])])) (cE .none) (tupV [(ifV (boolT (opN isND [.v (opN ixD [.p 4, .v (cE (.int 0))]), .v (cE .none)])) (cE .none) (opN ixD [.p 9, .v (cE (.int 0))])), (ifV (boolT (opN isND [.v (opN ixD [.p 4, .v (cE (.int 1))]), .v (cE .none)])) (cE .none) (opN ixD [.p 9, .v (opN negD [.v (cE (.int 1))])]))]))]))) (seqM (retM (cE (.bool false)))
    skipM) skipM)
    skipM))
    skipM)))))))
noncomputable def g__law_range_right : MS :=
    (seqM (asgM 3 (opN subD [.v (callI sem__law_random 0 [(opN addD [.v (opN mulD [.v (cE (.int 2)), .p 2]), .v (cE (.int 1))])]), .p 2]))
    (seqM (forM' (itSeq (lstV [(tupV [(nameV 3), (nameV 3)]), (tupV [(nameV 3), (opN addD [.v (opN addD [.p 3, .v (cE (.int 1))]), .v (callI sem__law_random 0 [(cE (.int 40))])])]), (tupV [(cE .none), (nameV 3)]), (tupV [(nameV 3), (cE .none)]), (tupV [(cE .none), (cE .none)])])) (tgName 4) fb__law_range_right_5)
    (seqM (retM (cE (.bool true)))
    skipM)))
noncomputable def sem__law_range_right : D → List D → Option (D × D) := semI 2 9 g__law_range_right
theorem sc__law_range_right : FnScope ["generator", "rest", "far", "low", "span", "due", "told", "begin", "end", "some", "fits", "number"] ["generator", "rest", "far"] (defScope (top 49)) := ⟨rfl, rfl, rfl, by decide +kernel, rfl, by decide +kernel, by decide +kernel⟩
theorem b__law_range_right {P : Program} {w : World} {K : FragK} {mg : Str → Option Value} {base : Heap} (m_range : mg "range" = none) (c__law_random : Cl P w K mg base 2 "_law_random" ["generator", "bound"] (spI K sem__law_random)) (c__law_of_span : Cl P w K mg base 1 "_law_of_span" ["span"] (spA K sem__law_of_span)) (c__law_same : Cl P w K mg base 12 "_law_same" ["found", "due"] (spA K (sem__law_same 12))) (c_rest_of_range : Cl P w K mg base 4 "rest_of_range" ["span"] (spA K sem_rest_of_range)) (ck0_rest_of_range : ClK P w K mg base 4 "rest_of_range" ["span"] 0 ["span"] [0] (spA K sem_rest_of_range)) (c_tight_range : Cl P w K mg base 4 "tight_range" ["span", "rest"] (spA K sem_tight_range)) (ck0_tight_range : ClK P w K mg base 4 "tight_range" ["span", "rest"] 0 ["rest", "span"] [1, 0] (spA K sem_tight_range)) (c__law_in : Cl P w K mg base 1 "_law_in" ["rest", "number"] (spA K sem__law_in)) :
    BodyOk P w K mg base ["generator", "rest", "far", "low", "span", "due", "told", "begin", "end", "some", "fits", "number"] "_law_range_right" (defScope (top 49)) (defBody (top 49)) 12 (g__law_range_right) := by
  intro f cdv A outer s H hr hg
  have st : Sit (BodyCx P w K mg base ["generator", "rest", "far", "low", "span", "due", "told", "begin", "end", "some", "fits", "number"] "_law_range_right" (defScope (top 49)) f cdv A outer s H) 12 := ⟨hr, hg⟩
  exact (sss_cons (ss_set (i := 3) sc__law_range_right.nd rfl (by first | exact Or.inl rfl | exact Or.inr rfl) (se_bin sub_ok (SE.a (se_ci (i := 0) c__law_random (Sit.mk st.room st.gu) (svs_cons (se_bin add_ok (SE.a (se_bin mul_ok (SE.a se_int) (sa_name (i := 2)))) (SE.a se_int)) svs_nil))) (sa_name (i := 2))))
    (sss_cons (ss_for PassesOwn.never rfl (si_seq (SF.se (sf_lst (svs_cons (se_tup (svs_cons (se_name (i := 3)) (svs_cons (se_name (i := 3)) svs_nil))) (svs_cons (se_tup (svs_cons (se_name (i := 3)) (svs_cons (se_bin add_ok (SE.a (se_bin add_ok (sa_name (i := 3)) (SE.a se_int))) (SE.a (se_ci (i := 0) c__law_random (Sit.mk st.room st.gu) (svs_cons se_int svs_nil)))) svs_nil))) (svs_cons (se_tup (svs_cons se_non (svs_cons (se_name (i := 3)) svs_nil))) (svs_cons (se_tup (svs_cons (se_name (i := 3)) (svs_cons se_non svs_nil))) (svs_cons (se_tup (svs_cons se_non (svs_cons se_non svs_nil))) svs_nil)))))))) (sg_name (i := 4) sc__law_range_right.nd rfl (by first | exact Or.inl rfl | exact Or.inr rfl)) (sss_cons (ss_set (i := 5) sc__law_range_right.nd rfl (by first | exact Or.inl rfl | exact Or.inr rfl) (se_ca c__law_of_span (Sit.mk st.room st.gu) (svs_cons (se_name (i := 4)) svs_nil)))
    (sss_cons (ss_if (sb_not (sb_val (se_ca c__law_same (Sit.mk st.room st.gu) (svs_cons (SF.se (sf_lst (svs_cons (se_ca c_rest_of_range (Sit.mk st.room st.gu) (svs_cons (se_name (i := 4)) svs_nil)) (svs_cons (se_ck0 ck0_rest_of_range (Sit.mk st.room st.gu) (svk_cons (se_name (i := 4)) svk_nil)) svs_nil)))) (svs_cons (SF.se (sf_lst (svs_cons (se_name (i := 5)) (svs_cons (se_name (i := 5)) svs_nil)))) svs_nil))))) (sss_cons (ss_ret se_bl)
    sss_nil) sss_nil)
    (sss_cons (ss_set (i := 6) sc__law_range_right.nd rfl (by first | exact Or.inl rfl | exact Or.inr rfl) (se_ca c_tight_range (Sit.mk st.room st.gu) (svs_cons (se_name (i := 4)) (svs_cons (se_name (i := 1)) svs_nil))))
    (sss_cons (ss_if (sb_not (sb_val (se_ca c__law_same (Sit.mk st.room st.gu) (svs_cons (se_name (i := 6)) (svs_cons (se_ck0 ck0_tight_range (Sit.mk st.room st.gu) (svk_cons (se_name (i := 1)) (svk_cons (se_name (i := 4)) svk_nil))) svs_nil))))) (sss_cons (ss_ret se_bl)
    sss_nil) sss_nil)
    (sss_cons (ss_par (i := 7) (j := 8) rfl sc__law_range_right.nd rfl rfl (by decide) rfl rfl (svs_cons (se_if (sb_cmp isN_ok (SE.a (se_ix (ix_ok st.units0) (sa_name (i := 4)) (SE.a se_int))) (SE.a se_non) rfl) (se_name (i := 3)) (se_ix (ix_ok st.units0) (sa_name (i := 4)) (SE.a se_int))) (svs_cons (se_if (sb_cmp isN_ok (SE.a (se_ix (ix_ok st.units0) (sa_name (i := 4)) (SE.a se_int))) (SE.a se_non) rfl) (se_name (i := 3)) (se_ix (ix_ok st.units0) (sa_name (i := 4)) (SE.a se_int))) svs_nil)) (by rfl))
    (sss_cons (ss_lc (i := 9) (own := [("number", 11)]) rfl sc__law_range_right.nd rfl rfl (by rfl) (si_rng2 rfl m_range (se_bin sub_ok (SE.a (se_bin sub_ok (sa_name (i := 7)) (SE.a (se_ix (ix_ok st.units0) (sa_name (i := 1)) (SE.a se_int))))) (SE.a se_int)) (se_bin add_ok (SE.a (se_bin add_ok (sa_name (i := 8)) (SE.a (se_ix (ix_ok st.units0) (sa_name (i := 1)) (SE.a se_int))))) (SE.a se_int))) (blkB_ok (by kernel_rfl)) (by decide) (fun _ _ _ _ _ => (sg_name (i := 11) sc__law_range_right.nd rfl (by first | exact Or.inl rfl | exact Or.inr rfl))) (fun _ _ _ _ _ => (sps_one (sb_bool (sw_and (sb_val (se_ca c__law_in (Sit.mk st.room st.gu) (svs_cons (se_name (i := 1)) (svs_cons (se_name (i := 11)) svs_nil)))) (sw_and (sb_bool (sw_or (sb_cmp isN_ok (SE.a (se_ix (ix_ok st.units0) (sa_name (i := 4)) (SE.a se_int))) (SE.a se_non) rfl) (sw_or1 (sb_cmp ge_ok (sa_name (i := 11)) (SE.a (se_ix (ix_ok st.units0) (sa_name (i := 4)) (SE.a se_int))) rfl)))) (sw_and1 (sb_bool (sw_or (sb_cmp isN_ok (SE.a (se_ix (ix_ok st.units0) (sa_name (i := 4)) (SE.a se_int))) (SE.a se_non) rfl) (sw_or1 (sb_cmp le_ok (sa_name (i := 11)) (SE.a (se_ix (ix_ok st.units0) (sa_name (i := 4)) (SE.a se_int))) rfl)))))))))) (fun _ _ _ _ _ => (se_name (i := 11))))
    (sss_cons (ss_if (sb_cmp (eq_ok st.units) (SE.a (se_ix (ix_ok st.units0) (sa_name (i := 1)) (SE.a se_int))) (SE.a se_int) rfl) (sss_cons (ss_set (i := 10) sc__law_range_right.nd rfl (by first | exact Or.inl rfl | exact Or.inr rfl) (se_and (se_or (se_cmp isN_ok (SE.a (se_ix (ix_ok st.units0) (sa_name (i := 4)) (SE.a se_int))) (SE.a se_non) rfl) (se_one (se_cmp le_ok (SE.a (se_ix (ix_ok st.units0) (sa_name (i := 4)) (SE.a se_int))) (SE.a (se_ix (ix_ok st.units0) (sa_name (i := 1)) (SE.a se_int))) rfl))) (se_one (se_or (se_cmp isN_ok (SE.a (se_ix (ix_ok st.units0) (sa_name (i := 4)) (SE.a se_int))) (SE.a se_non) rfl) (se_one (se_cmp le_ok (SE.a (se_ix (ix_ok st.units0) (sa_name (i := 1)) (SE.a se_int))) (SE.a (se_ix (ix_ok st.units0) (sa_name (i := 4)) (SE.a se_int))) rfl))))))
    (sss_cons (ss_if (sb_not (sb_val (se_ca c__law_same (Sit.mk st.room st.gu) (svs_cons (se_name (i := 6)) (svs_cons (se_if (sb_val (se_name (i := 10))) (se_tup (svs_cons (se_ix (ix_ok st.units0) (sa_name (i := 1)) (SE.a se_int)) (svs_cons (se_ix (ix_ok st.units0) (sa_name (i := 1)) (SE.a se_int)) svs_nil))) se_non) svs_nil))))) (sss_cons (ss_ret se_bl)
    sss_nil) sss_nil)
    sss_nil)) (sss_cons (ss_if (sb_not (sb_val (se_ca c__law_same (Sit.mk st.room st.gu) (svs_cons (se_name (i := 6)) (svs_cons (se_if (sb_cmp (eq_ok st.units) (sa_name (i := 9)) (SE.a (SF.se (sf_lst svs_nil))) rfl) se_non (se_tup (svs_cons (se_if (sb_cmp isN_ok (SE.a (se_ix (ix_ok st.units0) (sa_name (i := 4)) (SE.a se_int))) (SE.a se_non) rfl) se_non (se_ix (ix_ok st.units0) (sa_name (i := 9)) (SE.a se_int))) (svs_cons (se_if (sb_cmp isN_ok (SE.a (se_ix (ix_ok st.units0) (sa_name (i := 4)) (SE.a se_int))) (SE.a se_non) rfl) se_non (se_ix (ix_ok st.units0) (sa_name (i := 9)) (SE.a (se_un neg_ok (SE.a se_int))))) svs_nil)))) svs_nil))))) (sss_cons (ss_ret se_bl)
    sss_nil) sss_nil)
    sss_nil))
    sss_nil))))))))
    (sss_cons (ss_ret se_bl)
    sss_nil)))
noncomputable def wc__law_common_1 : MT :=
    (boolT (opN gtD [.p 1, .v (cE (.int 0))]))
noncomputable def wb__law_common_2 : MS :=
    (seqM (parM 0 1 (nameV 1) (opN modD [.v (opN intD [.p 0]), .v (opN intD [.p 1])]))
    skipM)
noncomputable def g__law_common : MS :=
    (seqM (whileM wc__law_common_1 wb__law_common_2)
    (seqM (retM (nameV 0))
    skipM))
noncomputable def sem__law_common : List D → Option D := semA 2 0 g__law_common
theorem sc__law_common : FnScope ["one", "other"] ["one", "other"] (defScope (top 41)) := ⟨rfl, rfl, rfl, by decide +kernel, rfl, by decide +kernel, by decide +kernel⟩
theorem b__law_common {P : Program} {w : World} {K : FragK} {mg : Str → Option Value} {base : Heap} (m_int : mg "int" = none)  :
    BodyOk P w K mg base ["one", "other"] "_law_common" (defScope (top 41)) (defBody (top 41)) 0 (g__law_common) := by
  intro f cdv A outer s H hr hg
  have st : Sit (BodyCx P w K mg base ["one", "other"] "_law_common" (defScope (top 41)) f cdv A outer s H) 0 := ⟨hr, hg⟩
  exact (sss_cons (ss_while PassesOwn.never (sb_cmp gt_ok (sa_name (i := 1)) (SE.a se_int) rfl) (sss_cons (ss_par (i := 0) (j := 1) rfl sc__law_common.nd rfl rfl (by decide) rfl rfl (svs_cons (se_name (i := 1)) (svs_cons (se_bin mod_ok (SE.a (se_callT int_ok rfl m_int bt_int (sas_cons (sa_name (i := 0)) sas_nil))) (SE.a (se_callT int_ok rfl m_int bt_int (sas_cons (sa_name (i := 1)) sas_nil)))) svs_nil)) (by rfl))
    sss_nil))
    (sss_cons (ss_ret (se_name (i := 0)))
    sss_nil))
noncomputable def fb_law_1 : MS :=
    (seqM (parM3 4 5 6 (callI sem__law_some_rest 2 [(cE (.int 12))]) (callI sem__law_some_rest 2 [(cE (.int 12))]) (callI sem__law_some_rest 2 [(cE (.int 12))]))
    (seqM (ifM (orT (notT (boolT (opN (atomF sem__law_window_right) [.p 2, .p 4, .p 5]))) (orT (notT (boolT (opN (atomF sem__law_moved_right) [.p 2, .p 4, .v (opN subD [.v (callI sem__law_random 2 [(cE (.int 99))]), .v (cE (.int 49))])]))) (notT (boolT (callI sem__law_range_right 2 [(nameV 4), (cE (.int 60))]))))) (seqM (retM (cE (.bool false)))
    skipM) skipM)
    (seqM (ifM (notT (boolT (callA (sem__law_same 12) [(callA sem_rest_joined [(callA sem_rest_joined [(nameV 4), (nameV 5)]), (nameV 6)]), (callA sem_rest_joined [(nameV 4), (callA sem_rest_joined [(nameV 6), (nameV 5)])])]))) (seqM (retM (cE (.bool false)))
    skipM) skipM)
    skipM)))
noncomputable def fb_law_2 : MS :=
    (seqM (asgF 2 (callA sem__law_generator [(nameV 0), (nameV 1)]))
    (seqM (forM' (itRng1 (cE (.int 4))) (tgName 3) fb_law_1)
    (seqM (parM 7 8 (opN addD [.v (opN powD [.v (cE (.int 10)), .v (cE (.int 9))]), .v (callI sem__law_random 2 [(cE (.int 99))])]) (opN addD [.v (opN addD [.v (opN powD [.v (cE (.int 10)), .v (cE (.int 9))]), .v (cE (.int 100))]), .v (callI sem__law_random 2 [(cE (.int 99))])]))
    (seqM (asgM 9 (callI sem__law_random 2 [(opN powD [.v (cE (.int 10)), .v (cE (.int 17))])]))
    (seqM (asgM 10 (callA sem_rest_met [(callA sem__law_rest [(nameV 9), (nameV 7)]), (callA sem__law_rest [(nameV 9), (nameV 8)])]))
    (seqM (ifM (orT (boolT (opN neD [.p 10, .v (callA sem__law_rest [(nameV 9), (opN mulD [.v (opN fdivD [.p 7, .v (callA sem__law_common [(nameV 7), (nameV 8)])]), .p 8])])])) (boolT (opN neD [.v (callA sem_rest_joined [(tupV [(nameV 9), (cE (.int 0))]), (tupV [(opN addD [.p 9, .p 7]), (cE (.int 0))])]), .v (callA sem__law_rest [(nameV 9), (nameV 7)])]))) (seqM (retM (cE (.bool false)))
    skipM) skipM)
    (seqM (ifM (notT (boolT (opN (atomF sem__law_moved_right) [.p 2, .v (callA sem__law_rest [(nameV 9), (nameV 7)]), .v (opN subD [.v (cE (.int 0)), .p 9])]))) (seqM (retM (cE (.bool false)))
    skipM) skipM)
    skipM)))))))
noncomputable def g_law : MS :=
    (seqM (forM' (itRng1 (cE (.int 3))) (tgName 1) fb_law_2)
    (seqM (retM (callA (sem__law_same 12) [(lstV [(callA sem_rest_joined [(tupV [(cE (.int 1)), (cE (.int 4))]), (tupV [(cE (.int 3)), (cE (.int 6))])]), (callA sem_rest_met [(tupV [(cE (.int 1)), (cE (.int 4))]), (tupV [(cE (.int 3)), (cE (.int 6))])]), (callA sem_rest_met [(tupV [(cE (.int 0)), (cE (.int 4))]), (tupV [(cE (.int 1)), (cE (.int 6))])]), (callA sem_tight_range [(tupV [(cE (.int 1)), (cE (.int 11))]), (tupV [(cE (.int 0)), (cE (.int 4))])])]), (lstV [(tupV [(cE (.int 1)), (cE (.int 2))]), (tupV [(cE (.int 9)), (cE (.int 12))]), (cE .none), (tupV [(cE (.int 4)), (cE (.int 8))])])]))
    skipM))
noncomputable def sem_law : List D → Option D := semA 1 10 g_law
theorem sc_law : FnScope ["script", "index", "generator", "turn", "rest", "other", "third", "one", "two", "number", "met"] ["script"] (defScope (top 50)) := ⟨rfl, rfl, rfl, by decide +kernel, rfl, by decide +kernel, by decide +kernel⟩
theorem b_law {P : Program} {w : World} {K : FragK} {mg : Str → Option Value} {base : Heap} (m_range : mg "range" = none) (c__law_generator : Cl P w K mg base 2 "_law_generator" ["script", "index"] (spF K sem__law_generator)) (c__law_some_rest : Cl P w K mg base 4 "_law_some_rest" ["generator", "far"] (spI K sem__law_some_rest)) (c__law_window_right : Cl P w K mg base 13 "_law_window_right" ["generator", "rest", "other"] (spA K sem__law_window_right)) (c__law_moved_right : Cl P w K mg base 13 "_law_moved_right" ["generator", "rest", "number"] (spA K sem__law_moved_right)) (c__law_random : Cl P w K mg base 2 "_law_random" ["generator", "bound"] (spI K sem__law_random)) (c__law_range_right : Cl P w K mg base 13 "_law_range_right" ["generator", "rest", "far"] (spI K sem__law_range_right)) (c__law_same : Cl P w K mg base 12 "_law_same" ["found", "due"] (spA K (sem__law_same 12))) (c_rest_joined : Cl P w K mg base 5 "rest_joined" ["rest", "other"] (spA K sem_rest_joined)) (c_rest_met : Cl P w K mg base 5 "rest_met" ["rest", "other"] (spA K sem_rest_met)) (c__law_rest : Cl P w K mg base 1 "_law_rest" ["first", "step"] (spA K sem__law_rest)) (c__law_common : Cl P w K mg base 1 "_law_common" ["one", "other"] (spA K sem__law_common)) (c_tight_range : Cl P w K mg base 4 "tight_range" ["span", "rest"] (spA K sem_tight_range)) :
    BodyOk P w K mg base ["script", "index", "generator", "turn", "rest", "other", "third", "one", "two", "number", "met"] "law" (defScope (top 50)) (defBody (top 50)) 13 (g_law) := by
  intro f cdv A outer s H hr hg
  have st : Sit (BodyCx P w K mg base ["script", "index", "generator", "turn", "rest", "other", "third", "one", "two", "number", "met"] "law" (defScope (top 50)) f cdv A outer s H) 13 := ⟨hr, hg⟩
  exact (sss_cons (ss_for PassesOwn.never rfl (si_rng1 rfl m_range se_int) (sg_name (i := 1) sc_law.nd rfl (by first | exact Or.inl rfl | exact Or.inr rfl)) (sss_cons (ss_setF (i := 2) sc_law.nd rfl (by first | exact Or.inl rfl | exact Or.inr rfl) (sf_ca c__law_generator (Sit.mk st.room st.gu) (svs_cons (se_name (i := 0)) (svs_cons (se_name (i := 1)) svs_nil))))
    (sss_cons (ss_for PassesOwn.never rfl (si_rng1 rfl m_range se_int) (sg_name (i := 3) sc_law.nd rfl (by first | exact Or.inl rfl | exact Or.inr rfl)) (sss_cons (ss_par3 (i := 4) (j := 5) (l := 6) rfl sc_law.nd rfl rfl rfl (by decide) (by decide) (by decide) rfl rfl rfl (svs_cons (se_ci (i := 2) c__law_some_rest (Sit.mk st.room st.gu) (svs_cons se_int svs_nil)) (svs_cons (se_ci (i := 2) c__law_some_rest (Sit.mk st.room st.gu) (svs_cons se_int svs_nil)) (svs_cons (se_ci (i := 2) c__law_some_rest (Sit.mk st.room st.gu) (svs_cons se_int svs_nil)) svs_nil))) (by rfl))
    (sss_cons (ss_if (sb_bool (sw_or (sb_not (sb_val (se_cp c__law_window_right (Sit.mk st.room st.gu) (sas_cons (sa_name (i := 2)) (sas_cons (sa_name (i := 4)) (sas_cons (sa_name (i := 5)) sas_nil)))))) (sw_or (sb_not (sb_val (se_cp c__law_moved_right (Sit.mk st.room st.gu) (sas_cons (sa_name (i := 2)) (sas_cons (sa_name (i := 4)) (sas_cons (SE.a (se_bin sub_ok (SE.a (se_ci (i := 2) c__law_random (Sit.mk st.room st.gu) (svs_cons se_int svs_nil))) (SE.a se_int))) sas_nil)))))) (sw_or1 (sb_not (sb_val (se_ci (i := 2) c__law_range_right (Sit.mk st.room st.gu) (svs_cons (se_name (i := 4)) (svs_cons se_int svs_nil))))))))) (sss_cons (ss_ret se_bl)
    sss_nil) sss_nil)
    (sss_cons (ss_if (sb_not (sb_val (se_ca c__law_same (Sit.mk st.room st.gu) (svs_cons (se_ca c_rest_joined (Sit.mk st.room st.gu) (svs_cons (se_ca c_rest_joined (Sit.mk st.room st.gu) (svs_cons (se_name (i := 4)) (svs_cons (se_name (i := 5)) svs_nil))) (svs_cons (se_name (i := 6)) svs_nil))) (svs_cons (se_ca c_rest_joined (Sit.mk st.room st.gu) (svs_cons (se_name (i := 4)) (svs_cons (se_ca c_rest_joined (Sit.mk st.room st.gu) (svs_cons (se_name (i := 6)) (svs_cons (se_name (i := 5)) svs_nil))) svs_nil))) svs_nil))))) (sss_cons (ss_ret se_bl)
    sss_nil) sss_nil)
    sss_nil))))
    (sss_cons (ss_par (i := 7) (j := 8) rfl sc_law.nd rfl rfl (by decide) rfl rfl (svs_cons (se_bin add_ok (SE.a (se_bin pow_ok (SE.a se_int) (SE.a se_int))) (SE.a (se_ci (i := 2) c__law_random (Sit.mk st.room st.gu) (svs_cons se_int svs_nil)))) (svs_cons (se_bin add_ok (SE.a (se_bin add_ok (SE.a (se_bin pow_ok (SE.a se_int) (SE.a se_int))) (SE.a se_int))) (SE.a (se_ci (i := 2) c__law_random (Sit.mk st.room st.gu) (svs_cons se_int svs_nil)))) svs_nil)) (by rfl))
    (sss_cons (ss_set (i := 9) sc_law.nd rfl (by first | exact Or.inl rfl | exact Or.inr rfl) (se_ci (i := 2) c__law_random (Sit.mk st.room st.gu) (svs_cons (se_bin pow_ok (SE.a se_int) (SE.a se_int)) svs_nil)))
    (sss_cons (ss_set (i := 10) sc_law.nd rfl (by first | exact Or.inl rfl | exact Or.inr rfl) (se_ca c_rest_met (Sit.mk st.room st.gu) (svs_cons (se_ca c__law_rest (Sit.mk st.room st.gu) (svs_cons (se_name (i := 9)) (svs_cons (se_name (i := 7)) svs_nil))) (svs_cons (se_ca c__law_rest (Sit.mk st.room st.gu) (svs_cons (se_name (i := 9)) (svs_cons (se_name (i := 8)) svs_nil))) svs_nil))))
    (sss_cons (ss_if (sb_bool (sw_or (sb_cmp (ne_ok st.units) (sa_name (i := 10)) (SE.a (se_ca c__law_rest (Sit.mk st.room st.gu) (svs_cons (se_name (i := 9)) (svs_cons (se_bin mul_ok (SE.a (se_bin fdiv_ok (sa_name (i := 7)) (SE.a (se_ca c__law_common (Sit.mk st.room st.gu) (svs_cons (se_name (i := 7)) (svs_cons (se_name (i := 8)) svs_nil)))))) (sa_name (i := 8))) svs_nil)))) rfl) (sw_or1 (sb_cmp (ne_ok st.units) (SE.a (se_ca c_rest_joined (Sit.mk st.room st.gu) (svs_cons (se_tup (svs_cons (se_name (i := 9)) (svs_cons se_int svs_nil))) (svs_cons (se_tup (svs_cons (se_bin add_ok (sa_name (i := 9)) (sa_name (i := 7))) (svs_cons se_int svs_nil))) svs_nil)))) (SE.a (se_ca c__law_rest (Sit.mk st.room st.gu) (svs_cons (se_name (i := 9)) (svs_cons (se_name (i := 7)) svs_nil)))) rfl)))) (sss_cons (ss_ret se_bl)
    sss_nil) sss_nil)
    (sss_cons (ss_if (sb_not (sb_val (se_cp c__law_moved_right (Sit.mk st.room st.gu) (sas_cons (sa_name (i := 2)) (sas_cons (SE.a (se_ca c__law_rest (Sit.mk st.room st.gu) (svs_cons (se_name (i := 9)) (svs_cons (se_name (i := 7)) svs_nil)))) (sas_cons (SE.a (se_bin sub_ok (SE.a se_int) (sa_name (i := 9)))) sas_nil)))))) (sss_cons (ss_ret se_bl)
    sss_nil) sss_nil)
    sss_nil))))))))
    (sss_cons (ss_ret (se_ca c__law_same (Sit.mk st.room st.gu) (svs_cons (SF.se (sf_lst (svs_cons (se_ca c_rest_joined (Sit.mk st.room st.gu) (svs_cons (se_tup (svs_cons se_int (svs_cons se_int svs_nil))) (svs_cons (se_tup (svs_cons se_int (svs_cons se_int svs_nil))) svs_nil))) (svs_cons (se_ca c_rest_met (Sit.mk st.room st.gu) (svs_cons (se_tup (svs_cons se_int (svs_cons se_int svs_nil))) (svs_cons (se_tup (svs_cons se_int (svs_cons se_int svs_nil))) svs_nil))) (svs_cons (se_ca c_rest_met (Sit.mk st.room st.gu) (svs_cons (se_tup (svs_cons se_int (svs_cons se_int svs_nil))) (svs_cons (se_tup (svs_cons se_int (svs_cons se_int svs_nil))) svs_nil))) (svs_cons (se_ca c_tight_range (Sit.mk st.room st.gu) (svs_cons (se_tup (svs_cons se_int (svs_cons se_int svs_nil))) (svs_cons (se_tup (svs_cons se_int (svs_cons se_int svs_nil))) svs_nil))) svs_nil)))))) (svs_cons (SF.se (sf_lst (svs_cons (se_tup (svs_cons se_int (svs_cons se_int svs_nil))) (svs_cons (se_tup (svs_cons se_int (svs_cons se_int svs_nil))) (svs_cons se_non (svs_cons (se_tup (svs_cons se_int (svs_cons se_int svs_nil))) svs_nil)))))) svs_nil))))
    sss_nil))
end LW

set_option maxRecDepth 100000
set_option maxHeartbeats 0
namespace LW
open PySem PySem.Spec PyProof.Rows L2 MP
def d__law_same : He.DefD := ⟨("_law_same", none), "_law_same", "_law_same", defArgs (top 40), defBody (top 40), defScope (top 40), [], []⟩
def d__law_cell : He.DefD := ⟨("_law_cell", none), "_law_cell", "_law_cell", defArgs (top 37), defBody (top 37), defScope (top 37), [], []⟩
def d__law_generator : He.DefD := ⟨("_law_generator", none), "_law_generator", "_law_generator", defArgs (top 38), defBody (top 38), defScope (top 38), [], []⟩
def d__law_hash : He.DefD := ⟨("_law_hash", none), "_law_hash", "_law_hash", defArgs (top 35), defBody (top 35), defScope (top 35), [], []⟩
def d__law_random : He.DefD := ⟨("_law_random", none), "_law_random", "_law_random", defArgs (top 36), defBody (top 36), defScope (top 36), [], []⟩
def d_is_whole : He.DefD := ⟨("is_whole", none), "is_whole", "is_whole", defArgs (top 6), defBody (top 6), defScope (top 6), [], []⟩
def d_is_rest : He.DefD := ⟨("is_rest", none), "is_rest", "is_rest", defArgs (top 10), defBody (top 10), defScope (top 10), [], []⟩
def d_check_rest : He.DefD := ⟨("check_rest", none), "check_rest", "check_rest", defArgs (top 11), defBody (top 11), defScope (top 11), [], []⟩
def d_check_two_rests : He.DefD := ⟨("check_two_rests", none), "check_two_rests", "check_two_rests", defArgs (top 24), defBody (top 24), defScope (top 24), [], []⟩
def d_common_step : He.DefD := ⟨("common_step", none), "common_step", "common_step", defArgs (top 13), defBody (top 13), defScope (top 13), [], []⟩
def d_rest_from : He.DefD := ⟨("rest_from", none), "rest_from", "rest_from", defArgs (top 14), defBody (top 14), defScope (top 14), [], []⟩
def d_in_rest : He.DefD := ⟨("in_rest", none), "in_rest", "in_rest", defArgs (top 15), defBody (top 15), defScope (top 15), [], []⟩
def d_turns_back : He.DefD := ⟨("turns_back", none), "turns_back", "turns_back", defArgs (top 18), defBody (top 18), defScope (top 18), [], []⟩
def d_meet_rests : He.DefD := ⟨("meet_rests", none), "meet_rests", "meet_rests", defArgs (top 19), defBody (top 19), defScope (top 19), [], []⟩
def d_rest_met : He.DefD := ⟨("rest_met", none), "rest_met", "rest_met", defArgs (top 27), defBody (top 27), defScope (top 27), [], []⟩
def d__law_rest : He.DefD := ⟨("_law_rest", none), "_law_rest", "_law_rest", defArgs (top 42), defBody (top 42), defScope (top 42), [], []⟩
def d_check_rest_number : He.DefD := ⟨("check_rest_number", none), "check_rest_number", "check_rest_number", defArgs (top 12), defBody (top 12), defScope (top 12), [], []⟩
def d_move_rest : He.DefD := ⟨("move_rest", none), "move_rest", "move_rest", defArgs (top 20), defBody (top 20), defScope (top 20), [], []⟩
def d_rest_plus : He.DefD := ⟨("rest_plus", none), "rest_plus", "rest_plus", defArgs (top 28), defBody (top 28), defScope (top 28), [], []⟩
def d_turn_rest : He.DefD := ⟨("turn_rest", none), "turn_rest", "turn_rest", defArgs (top 21), defBody (top 21), defScope (top 21), [], []⟩
def d_rest_turned : He.DefD := ⟨("rest_turned", none), "rest_turned", "rest_turned", defArgs (top 29), defBody (top 29), defScope (top 29), [], []⟩
def d__law_in : He.DefD := ⟨("_law_in", none), "_law_in", "_law_in", defArgs (top 43), defBody (top 43), defScope (top 43), [], []⟩
def d_rest_holds : He.DefD := ⟨("rest_holds", none), "rest_holds", "rest_holds", defArgs (top 23), defBody (top 23), defScope (top 23), [], []⟩
def d__law_moved_right : He.DefD := ⟨("_law_moved_right", none), "_law_moved_right", "_law_moved_right", defArgs (top 48), defBody (top 48), defScope (top 48), [], []⟩
def d_join_rests : He.DefD := ⟨("join_rests", none), "join_rests", "join_rests", defArgs (top 17), defBody (top 17), defScope (top 17), [], []⟩
def d_rest_joined : He.DefD := ⟨("rest_joined", none), "rest_joined", "rest_joined", defArgs (top 26), defBody (top 26), defScope (top 26), [], []⟩
def d_tight_of : He.DefD := ⟨("tight_of", none), "tight_of", "tight_of", defArgs (top 32), defBody (top 32), defScope (top 32), [], []⟩
def d_is_end : He.DefD := ⟨("is_end", none), "is_end", "is_end", defArgs (top 7), defBody (top 7), defScope (top 7), [], []⟩
def d_is_range : He.DefD := ⟨("is_range", none), "is_range", "is_range", defArgs (top 8), defBody (top 8), defScope (top 8), [], []⟩
def d_tight_range : He.DefD := ⟨("tight_range", none), "tight_range", "tight_range", defArgs (top 33), defBody (top 33), defScope (top 33), [], []⟩
def d__law_pick : He.DefD := ⟨("_law_pick", none), "_law_pick", "_law_pick", defArgs (top 39), defBody (top 39), defScope (top 39), [], []⟩
def d__law_some_rest : He.DefD := ⟨("_law_some_rest", none), "_law_some_rest", "_law_some_rest", defArgs (top 45), defBody (top 45), defScope (top 45), [], []⟩
def d__law_numbers : He.DefD := ⟨("_law_numbers", none), "_law_numbers", "_law_numbers", defArgs (top 46), defBody (top 46), defScope (top 46), [], []⟩
def d_within_rest : He.DefD := ⟨("within_rest", none), "within_rest", "within_rest", defArgs (top 16), defBody (top 16), defScope (top 16), [], []⟩
def d_rest_within : He.DefD := ⟨("rest_within", none), "rest_within", "rest_within", defArgs (top 25), defBody (top 25), defScope (top 25), [], []⟩
def d__law_window_right : He.DefD := ⟨("_law_window_right", none), "_law_window_right", "_law_window_right", defArgs (top 47), defBody (top 47), defScope (top 47), [], []⟩
def d__law_of_span : He.DefD := ⟨("_law_of_span", none), "_law_of_span", "_law_of_span", defArgs (top 44), defBody (top 44), defScope (top 44), [], []⟩
def d_rest_of_span : He.DefD := ⟨("rest_of_span", none), "rest_of_span", "rest_of_span", defArgs (top 22), defBody (top 22), defScope (top 22), [], []⟩
def d_rest_of_range : He.DefD := ⟨("rest_of_range", none), "rest_of_range", "rest_of_range", defArgs (top 30), defBody (top 30), defScope (top 30), [], []⟩
def d__law_range_right : He.DefD := ⟨("_law_range_right", none), "_law_range_right", "_law_range_right", defArgs (top 49), defBody (top 49), defScope (top 49), [], []⟩
def d__law_common : He.DefD := ⟨("_law_common", none), "_law_common", "_law_common", defArgs (top 41), defBody (top 41), defScope (top 41), [], []⟩
def d_law : He.DefD := ⟨("law", none), "law", "law", defArgs (top 50), defBody (top 50), defScope (top 50), [], []⟩
def fn : List He.DefD := (([d__law_same, d__law_cell, d__law_generator, d__law_hash, d__law_random, d_is_whole, d_is_rest, d_check_rest, d_check_two_rests, d_common_step, d_rest_from, d_in_rest, d_turns_back, d_meet_rests, d_rest_met, d__law_rest, d_check_rest_number, d_move_rest, d_rest_plus, d_turn_rest, d_rest_turned, d__law_in, d_rest_holds, d__law_moved_right, d_join_rests, d_rest_joined, d_tight_of, d_is_end, d_is_range, d_tight_range] : List He.DefD) ++ ([d__law_pick, d__law_some_rest, d__law_numbers, d_within_rest, d_rest_within, d__law_window_right, d__law_of_span, d_rest_of_span, d_rest_of_range, d__law_range_right, d__law_common, d_law] : List He.DefD))
def fa : List He.Fa := (([.glo "_law_same", .glo "_law_cell", .glo "_law_generator", .glo "_law_hash", .glo "_law_random", .glo "is_whole", .glo "is_rest", .glo "check_rest", .glo "check_two_rests", .glo "common_step", .glo "rest_from", .glo "in_rest", .glo "turns_back", .glo "meet_rests", .glo "rest_met", .glo "_law_rest", .glo "check_rest_number", .glo "move_rest", .glo "rest_plus", .glo "turn_rest", .glo "rest_turned", .glo "_law_in", .glo "rest_holds", .glo "_law_moved_right", .glo "join_rests", .glo "rest_joined", .glo "tight_of", .glo "is_end", .glo "is_range", .glo "tight_range"] : List He.Fa) ++ ([.glo "_law_pick", .glo "_law_some_rest", .glo "_law_numbers", .glo "within_rest", .glo "rest_within", .glo "_law_window_right", .glo "_law_of_span", .glo "rest_of_span", .glo "rest_of_range", .glo "_law_range_right", .glo "_law_common", .glo "law", .free "isinstance", .free "list", .free "tuple", .free "len", .free "zip", .free "all", .free "str", .free "int", .free "bool", .free "sum", .free "max", .free "range", .free "abs", .free "set"] : List He.Fa))
def loose : List Str := ((["BoundError", "InvalidNumber", "InvalidRange", "InvalidRest", "is_whole", "is_end", "is_range", "is_rest", "check_rest", "check_rest_number", "common_step", "rest_from", "in_rest", "within_rest", "join_rests", "turns_back", "meet_rests", "move_rest", "turn_rest", "rest_of_span", "rest_holds", "check_two_rests", "rest_within", "rest_joined", "rest_met", "rest_plus", "rest_turned", "rest_of_range", "tight_of", "tight_range"] : List Str) ++ (["_law_hash", "_law_random", "_law_cell", "_law_generator", "_law_pick", "_law_same", "_law_common", "_law_rest", "_law_in", "_law_of_span", "_law_some_rest", "_law_numbers", "_law_window_right", "_law_moved_right", "_law_range_right"] : List Str))
abbrev R : PySem.W.OpenRow := PySem.W.OpenLaw.row PySem.Challenge.rw_stillrests_k79_whole_two_rests
abbrev hk : PySem.W.Hook := He.hookD 4 fa fn
def ob (s : PySem.W.SharedT) : He.AlD := He.obsDG 4 fa fn (HandSHeadRun.getT s)
theorem ob_eq (s : PySem.W.SharedT) : ob s = hk.obs s.abs := He.obsDG_eq (HandSHeadRun.getT_eq s)
theorem run (w : World) : HandSHeadRun.RunEq R (PySem.W.view R.prog [50]) hk ob 4000 loose w := by
  intro os
  kernel_rfl
theorem facts {P : Program} {w : World} {K : FragK} {h : Heap} {mg : Str → Option Value} {f : Addr} (X : K.In h) (G : h.Ns mainGlobals mg) (hfa : mg ("law" : Str) = some (.ref f)) (c : He.SaysD fa fn K) :
    ∃ fd : FuncData, (∀ (s : Shared) (v : Value), BindsTo s fd ⟨[v], []⟩ [("script", v)]) ∧ ∀ base : Heap, K.In base → base.Ns mainGlobals mg → FnG P w K mg base 14 f fd ["script"] (spA K sem_law) := by
  have m_isinstance : mg "isinstance" = none := He.free_ok X G (c.fact 42 (f := .free "isinstance") rfl)
  have m_list : mg "list" = none := He.free_ok X G (c.fact 43 (f := .free "list") rfl)
  have m_tuple : mg "tuple" = none := He.free_ok X G (c.fact 44 (f := .free "tuple") rfl)
  have m_len : mg "len" = none := He.free_ok X G (c.fact 45 (f := .free "len") rfl)
  have m_zip : mg "zip" = none := He.free_ok X G (c.fact 46 (f := .free "zip") rfl)
  have m_all : mg "all" = none := He.free_ok X G (c.fact 47 (f := .free "all") rfl)
  have m_str : mg "str" = none := He.free_ok X G (c.fact 48 (f := .free "str") rfl)
  have m_int : mg "int" = none := He.free_ok X G (c.fact 49 (f := .free "int") rfl)
  have m_bool : mg "bool" = none := He.free_ok X G (c.fact 50 (f := .free "bool") rfl)
  have m_sum : mg "sum" = none := He.free_ok X G (c.fact 51 (f := .free "sum") rfl)
  have m_max : mg "max" = none := He.free_ok X G (c.fact 52 (f := .free "max") rfl)
  have m_range : mg "range" = none := He.free_ok X G (c.fact 53 (f := .free "range") rfl)
  have m_abs : mg "abs" = none := He.free_ok X G (c.fact 54 (f := .free "abs") rfl)
  have m_set : mg "set" = none := He.free_ok X G (c.fact 55 (f := .free "set") rfl)
  obtain ⟨fd__law_same, F__law_same⟩ := c.def_ 0 (d := d__law_same) rfl
  obtain ⟨fd__law_cell, F__law_cell⟩ := c.def_ 1 (d := d__law_cell) rfl
  obtain ⟨fd__law_generator, F__law_generator⟩ := c.def_ 2 (d := d__law_generator) rfl
  obtain ⟨fd__law_hash, F__law_hash⟩ := c.def_ 3 (d := d__law_hash) rfl
  obtain ⟨fd__law_random, F__law_random⟩ := c.def_ 4 (d := d__law_random) rfl
  obtain ⟨fd_is_whole, F_is_whole⟩ := c.def_ 5 (d := d_is_whole) rfl
  obtain ⟨fd_is_rest, F_is_rest⟩ := c.def_ 6 (d := d_is_rest) rfl
  obtain ⟨fd_check_rest, F_check_rest⟩ := c.def_ 7 (d := d_check_rest) rfl
  obtain ⟨fd_check_two_rests, F_check_two_rests⟩ := c.def_ 8 (d := d_check_two_rests) rfl
  obtain ⟨fd_common_step, F_common_step⟩ := c.def_ 9 (d := d_common_step) rfl
  obtain ⟨fd_rest_from, F_rest_from⟩ := c.def_ 10 (d := d_rest_from) rfl
  obtain ⟨fd_in_rest, F_in_rest⟩ := c.def_ 11 (d := d_in_rest) rfl
  obtain ⟨fd_turns_back, F_turns_back⟩ := c.def_ 12 (d := d_turns_back) rfl
  obtain ⟨fd_meet_rests, F_meet_rests⟩ := c.def_ 13 (d := d_meet_rests) rfl
  obtain ⟨fd_rest_met, F_rest_met⟩ := c.def_ 14 (d := d_rest_met) rfl
  obtain ⟨fd__law_rest, F__law_rest⟩ := c.def_ 15 (d := d__law_rest) rfl
  obtain ⟨fd_check_rest_number, F_check_rest_number⟩ := c.def_ 16 (d := d_check_rest_number) rfl
  obtain ⟨fd_move_rest, F_move_rest⟩ := c.def_ 17 (d := d_move_rest) rfl
  obtain ⟨fd_rest_plus, F_rest_plus⟩ := c.def_ 18 (d := d_rest_plus) rfl
  obtain ⟨fd_turn_rest, F_turn_rest⟩ := c.def_ 19 (d := d_turn_rest) rfl
  obtain ⟨fd_rest_turned, F_rest_turned⟩ := c.def_ 20 (d := d_rest_turned) rfl
  obtain ⟨fd__law_in, F__law_in⟩ := c.def_ 21 (d := d__law_in) rfl
  obtain ⟨fd_rest_holds, F_rest_holds⟩ := c.def_ 22 (d := d_rest_holds) rfl
  obtain ⟨fd__law_moved_right, F__law_moved_right⟩ := c.def_ 23 (d := d__law_moved_right) rfl
  obtain ⟨fd_join_rests, F_join_rests⟩ := c.def_ 24 (d := d_join_rests) rfl
  obtain ⟨fd_rest_joined, F_rest_joined⟩ := c.def_ 25 (d := d_rest_joined) rfl
  obtain ⟨fd_tight_of, F_tight_of⟩ := c.def_ 26 (d := d_tight_of) rfl
  obtain ⟨fd_is_end, F_is_end⟩ := c.def_ 27 (d := d_is_end) rfl
  obtain ⟨fd_is_range, F_is_range⟩ := c.def_ 28 (d := d_is_range) rfl
  obtain ⟨fd_tight_range, F_tight_range⟩ := c.def_ 29 (d := d_tight_range) rfl
  obtain ⟨fd__law_pick, F__law_pick⟩ := c.def_ 30 (d := d__law_pick) rfl
  obtain ⟨fd__law_some_rest, F__law_some_rest⟩ := c.def_ 31 (d := d__law_some_rest) rfl
  obtain ⟨fd__law_numbers, F__law_numbers⟩ := c.def_ 32 (d := d__law_numbers) rfl
  obtain ⟨fd_within_rest, F_within_rest⟩ := c.def_ 33 (d := d_within_rest) rfl
  obtain ⟨fd_rest_within, F_rest_within⟩ := c.def_ 34 (d := d_rest_within) rfl
  obtain ⟨fd__law_window_right, F__law_window_right⟩ := c.def_ 35 (d := d__law_window_right) rfl
  obtain ⟨fd__law_of_span, F__law_of_span⟩ := c.def_ 36 (d := d__law_of_span) rfl
  obtain ⟨fd_rest_of_span, F_rest_of_span⟩ := c.def_ 37 (d := d_rest_of_span) rfl
  obtain ⟨fd_rest_of_range, F_rest_of_range⟩ := c.def_ 38 (d := d_rest_of_range) rfl
  obtain ⟨fd__law_range_right, F__law_range_right⟩ := c.def_ 39 (d := d__law_range_right) rfl
  obtain ⟨fd__law_common, F__law_common⟩ := c.def_ 40 (d := d__law_common) rfl
  obtain ⟨fd_law, F_law⟩ := c.def_ 41 (d := d_law) rfl
  have g__law_same := He.glo_ok X G (c.fact 0 (f := .glo "_law_same") rfl)
  have a__law_same : At K mg "_law_same" (He.fAd K d__law_same.at_) fd__law_same ["found", "due"] := At.of F__law_same g__law_same (fun _ _ _ _ _ _ us hl => match us, hl with | [_, _], _ => rfl)
  have g__law_cell := He.glo_ok X G (c.fact 1 (f := .glo "_law_cell") rfl)
  have a__law_cell : At K mg "_law_cell" (He.fAd K d__law_cell.at_) fd__law_cell ["script", "index"] := At.of F__law_cell g__law_cell (fun _ _ _ _ _ _ us hl => match us, hl with | [_, _], _ => rfl)
  have g__law_generator := He.glo_ok X G (c.fact 2 (f := .glo "_law_generator") rfl)
  have a__law_generator : At K mg "_law_generator" (He.fAd K d__law_generator.at_) fd__law_generator ["script", "index"] := At.of F__law_generator g__law_generator (fun _ _ _ _ _ _ us hl => match us, hl with | [_, _], _ => rfl)
  have g__law_hash := He.glo_ok X G (c.fact 3 (f := .glo "_law_hash") rfl)
  have a__law_hash : At K mg "_law_hash" (He.fAd K d__law_hash.at_) fd__law_hash ["seed", "index"] := At.of F__law_hash g__law_hash (fun _ _ _ _ _ _ us hl => match us, hl with | [_, _], _ => rfl)
  have g__law_random := He.glo_ok X G (c.fact 4 (f := .glo "_law_random") rfl)
  have a__law_random : At K mg "_law_random" (He.fAd K d__law_random.at_) fd__law_random ["generator", "bound"] := At.of F__law_random g__law_random (fun _ _ _ _ _ _ us hl => match us, hl with | [_, _], _ => rfl)
  have g_is_whole := He.glo_ok X G (c.fact 5 (f := .glo "is_whole") rfl)
  have a_is_whole : At K mg "is_whole" (He.fAd K d_is_whole.at_) fd_is_whole ["value"] := At.of F_is_whole g_is_whole (fun _ _ _ _ _ _ us hl => match us, hl with | [_], _ => rfl)
  have g_is_rest := He.glo_ok X G (c.fact 6 (f := .glo "is_rest") rfl)
  have a_is_rest : At K mg "is_rest" (He.fAd K d_is_rest.at_) fd_is_rest ["value"] := At.of F_is_rest g_is_rest (fun _ _ _ _ _ _ us hl => match us, hl with | [_], _ => rfl)
  have g_check_rest := He.glo_ok X G (c.fact 7 (f := .glo "check_rest") rfl)
  have a_check_rest : At K mg "check_rest" (He.fAd K d_check_rest.at_) fd_check_rest ["rest"] := At.of F_check_rest g_check_rest (fun _ _ _ _ _ _ us hl => match us, hl with | [_], _ => rfl)
  have g_check_two_rests := He.glo_ok X G (c.fact 8 (f := .glo "check_two_rests") rfl)
  have a_check_two_rests : At K mg "check_two_rests" (He.fAd K d_check_two_rests.at_) fd_check_two_rests ["rest", "other"] := At.of F_check_two_rests g_check_two_rests (fun _ _ _ _ _ _ us hl => match us, hl with | [_, _], _ => rfl)
  have g_common_step := He.glo_ok X G (c.fact 9 (f := .glo "common_step") rfl)
  have a_common_step : At K mg "common_step" (He.fAd K d_common_step.at_) fd_common_step ["one", "other"] := At.of F_common_step g_common_step (fun _ _ _ _ _ _ us hl => match us, hl with | [_, _], _ => rfl)
  have g_rest_from := He.glo_ok X G (c.fact 10 (f := .glo "rest_from") rfl)
  have a_rest_from : At K mg "rest_from" (He.fAd K d_rest_from.at_) fd_rest_from ["first", "step"] := At.of F_rest_from g_rest_from (fun _ _ _ _ _ _ us hl => match us, hl with | [_, _], _ => rfl)
  have g_in_rest := He.glo_ok X G (c.fact 11 (f := .glo "in_rest") rfl)
  have a_in_rest : At K mg "in_rest" (He.fAd K d_in_rest.at_) fd_in_rest ["rest", "number"] := At.of F_in_rest g_in_rest (fun _ _ _ _ _ _ us hl => match us, hl with | [_, _], _ => rfl)
  have g_turns_back := He.glo_ok X G (c.fact 12 (f := .glo "turns_back") rfl)
  have a_turns_back : At K mg "turns_back" (He.fAd K d_turns_back.at_) fd_turns_back ["one", "other"] := At.of F_turns_back g_turns_back (fun _ _ _ _ _ _ us hl => match us, hl with | [_, _], _ => rfl)
  have g_meet_rests := He.glo_ok X G (c.fact 13 (f := .glo "meet_rests") rfl)
  have a_meet_rests : At K mg "meet_rests" (He.fAd K d_meet_rests.at_) fd_meet_rests ["rest", "other"] := At.of F_meet_rests g_meet_rests (fun _ _ _ _ _ _ us hl => match us, hl with | [_, _], _ => rfl)
  have g_rest_met := He.glo_ok X G (c.fact 14 (f := .glo "rest_met") rfl)
  have a_rest_met : At K mg "rest_met" (He.fAd K d_rest_met.at_) fd_rest_met ["rest", "other"] := At.of F_rest_met g_rest_met (fun _ _ _ _ _ _ us hl => match us, hl with | [_, _], _ => rfl)
  have kb_k0_rest_met : KB fd_rest_met ["rest", "other"] 0 ["other", "rest"] [1, 0] := kb_of F_rest_met (fun _ _ _ _ _ _ us ws h1 h2 => match us, h1, ws, h2 with | [], _, [_, _], _ => rfl)
  have g__law_rest := He.glo_ok X G (c.fact 15 (f := .glo "_law_rest") rfl)
  have a__law_rest : At K mg "_law_rest" (He.fAd K d__law_rest.at_) fd__law_rest ["first", "step"] := At.of F__law_rest g__law_rest (fun _ _ _ _ _ _ us hl => match us, hl with | [_, _], _ => rfl)
  have g_check_rest_number := He.glo_ok X G (c.fact 16 (f := .glo "check_rest_number") rfl)
  have a_check_rest_number : At K mg "check_rest_number" (He.fAd K d_check_rest_number.at_) fd_check_rest_number ["rest", "number"] := At.of F_check_rest_number g_check_rest_number (fun _ _ _ _ _ _ us hl => match us, hl with | [_, _], _ => rfl)
  have g_move_rest := He.glo_ok X G (c.fact 17 (f := .glo "move_rest") rfl)
  have a_move_rest : At K mg "move_rest" (He.fAd K d_move_rest.at_) fd_move_rest ["rest", "number"] := At.of F_move_rest g_move_rest (fun _ _ _ _ _ _ us hl => match us, hl with | [_, _], _ => rfl)
  have g_rest_plus := He.glo_ok X G (c.fact 18 (f := .glo "rest_plus") rfl)
  have a_rest_plus : At K mg "rest_plus" (He.fAd K d_rest_plus.at_) fd_rest_plus ["rest", "number"] := At.of F_rest_plus g_rest_plus (fun _ _ _ _ _ _ us hl => match us, hl with | [_, _], _ => rfl)
  have kb_k0_rest_plus : KB fd_rest_plus ["rest", "number"] 0 ["number", "rest"] [1, 0] := kb_of F_rest_plus (fun _ _ _ _ _ _ us ws h1 h2 => match us, h1, ws, h2 with | [], _, [_, _], _ => rfl)
  have g_turn_rest := He.glo_ok X G (c.fact 19 (f := .glo "turn_rest") rfl)
  have a_turn_rest : At K mg "turn_rest" (He.fAd K d_turn_rest.at_) fd_turn_rest ["rest", "number"] := At.of F_turn_rest g_turn_rest (fun _ _ _ _ _ _ us hl => match us, hl with | [_, _], _ => rfl)
  have g_rest_turned := He.glo_ok X G (c.fact 20 (f := .glo "rest_turned") rfl)
  have a_rest_turned : At K mg "rest_turned" (He.fAd K d_rest_turned.at_) fd_rest_turned ["rest", "number"] := At.of F_rest_turned g_rest_turned (fun _ _ _ _ _ _ us hl => match us, hl with | [_, _], _ => rfl)
  have kb_k0_rest_turned : KB fd_rest_turned ["rest", "number"] 0 ["number", "rest"] [1, 0] := kb_of F_rest_turned (fun _ _ _ _ _ _ us ws h1 h2 => match us, h1, ws, h2 with | [], _, [_, _], _ => rfl)
  have g__law_in := He.glo_ok X G (c.fact 21 (f := .glo "_law_in") rfl)
  have a__law_in : At K mg "_law_in" (He.fAd K d__law_in.at_) fd__law_in ["rest", "number"] := At.of F__law_in g__law_in (fun _ _ _ _ _ _ us hl => match us, hl with | [_, _], _ => rfl)
  have g_rest_holds := He.glo_ok X G (c.fact 22 (f := .glo "rest_holds") rfl)
  have a_rest_holds : At K mg "rest_holds" (He.fAd K d_rest_holds.at_) fd_rest_holds ["rest", "number"] := At.of F_rest_holds g_rest_holds (fun _ _ _ _ _ _ us hl => match us, hl with | [_, _], _ => rfl)
  have kb_k0_rest_holds : KB fd_rest_holds ["rest", "number"] 0 ["number", "rest"] [1, 0] := kb_of F_rest_holds (fun _ _ _ _ _ _ us ws h1 h2 => match us, h1, ws, h2 with | [], _, [_, _], _ => rfl)
  have g__law_moved_right := He.glo_ok X G (c.fact 23 (f := .glo "_law_moved_right") rfl)
  have a__law_moved_right : At K mg "_law_moved_right" (He.fAd K d__law_moved_right.at_) fd__law_moved_right ["generator", "rest", "number"] := At.of F__law_moved_right g__law_moved_right (fun _ _ _ _ _ _ us hl => match us, hl with | [_, _, _], _ => rfl)
  have g_join_rests := He.glo_ok X G (c.fact 24 (f := .glo "join_rests") rfl)
  have a_join_rests : At K mg "join_rests" (He.fAd K d_join_rests.at_) fd_join_rests ["rest", "other"] := At.of F_join_rests g_join_rests (fun _ _ _ _ _ _ us hl => match us, hl with | [_, _], _ => rfl)
  have g_rest_joined := He.glo_ok X G (c.fact 25 (f := .glo "rest_joined") rfl)
  have a_rest_joined : At K mg "rest_joined" (He.fAd K d_rest_joined.at_) fd_rest_joined ["rest", "other"] := At.of F_rest_joined g_rest_joined (fun _ _ _ _ _ _ us hl => match us, hl with | [_, _], _ => rfl)
  have kb_k0_rest_joined : KB fd_rest_joined ["rest", "other"] 0 ["other", "rest"] [1, 0] := kb_of F_rest_joined (fun _ _ _ _ _ _ us ws h1 h2 => match us, h1, ws, h2 with | [], _, [_, _], _ => rfl)
  have g_tight_of := He.glo_ok X G (c.fact 26 (f := .glo "tight_of") rfl)
  have a_tight_of : At K mg "tight_of" (He.fAd K d_tight_of.at_) fd_tight_of ["span", "rest"] := At.of F_tight_of g_tight_of (fun _ _ _ _ _ _ us hl => match us, hl with | [_, _], _ => rfl)
  have g_is_end := He.glo_ok X G (c.fact 27 (f := .glo "is_end") rfl)
  have a_is_end : At K mg "is_end" (He.fAd K d_is_end.at_) fd_is_end ["value"] := At.of F_is_end g_is_end (fun _ _ _ _ _ _ us hl => match us, hl with | [_], _ => rfl)
  have g_is_range := He.glo_ok X G (c.fact 28 (f := .glo "is_range") rfl)
  have a_is_range : At K mg "is_range" (He.fAd K d_is_range.at_) fd_is_range ["value"] := At.of F_is_range g_is_range (fun _ _ _ _ _ _ us hl => match us, hl with | [_], _ => rfl)
  have g_tight_range := He.glo_ok X G (c.fact 29 (f := .glo "tight_range") rfl)
  have a_tight_range : At K mg "tight_range" (He.fAd K d_tight_range.at_) fd_tight_range ["span", "rest"] := At.of F_tight_range g_tight_range (fun _ _ _ _ _ _ us hl => match us, hl with | [_, _], _ => rfl)
  have kb_k0_tight_range : KB fd_tight_range ["span", "rest"] 0 ["rest", "span"] [1, 0] := kb_of F_tight_range (fun _ _ _ _ _ _ us ws h1 h2 => match us, h1, ws, h2 with | [], _, [_, _], _ => rfl)
  have g__law_pick := He.glo_ok X G (c.fact 30 (f := .glo "_law_pick") rfl)
  have a__law_pick : At K mg "_law_pick" (He.fAd K d__law_pick.at_) fd__law_pick ["generator", "things"] := At.of F__law_pick g__law_pick (fun _ _ _ _ _ _ us hl => match us, hl with | [_, _], _ => rfl)
  have g__law_some_rest := He.glo_ok X G (c.fact 31 (f := .glo "_law_some_rest") rfl)
  have a__law_some_rest : At K mg "_law_some_rest" (He.fAd K d__law_some_rest.at_) fd__law_some_rest ["generator", "far"] := At.of F__law_some_rest g__law_some_rest (fun _ _ _ _ _ _ us hl => match us, hl with | [_, _], _ => rfl)
  have g__law_numbers := He.glo_ok X G (c.fact 32 (f := .glo "_law_numbers") rfl)
  have a__law_numbers : At K mg "_law_numbers" (He.fAd K d__law_numbers.at_) fd__law_numbers ["rest", "low", "high"] := At.of F__law_numbers g__law_numbers (fun _ _ _ _ _ _ us hl => match us, hl with | [_, _, _], _ => rfl)
  have g_within_rest := He.glo_ok X G (c.fact 33 (f := .glo "within_rest") rfl)
  have a_within_rest : At K mg "within_rest" (He.fAd K d_within_rest.at_) fd_within_rest ["rest", "other"] := At.of F_within_rest g_within_rest (fun _ _ _ _ _ _ us hl => match us, hl with | [_, _], _ => rfl)
  have g_rest_within := He.glo_ok X G (c.fact 34 (f := .glo "rest_within") rfl)
  have a_rest_within : At K mg "rest_within" (He.fAd K d_rest_within.at_) fd_rest_within ["rest", "other"] := At.of F_rest_within g_rest_within (fun _ _ _ _ _ _ us hl => match us, hl with | [_, _], _ => rfl)
  have kb_k0_rest_within : KB fd_rest_within ["rest", "other"] 0 ["other", "rest"] [1, 0] := kb_of F_rest_within (fun _ _ _ _ _ _ us ws h1 h2 => match us, h1, ws, h2 with | [], _, [_, _], _ => rfl)
  have g__law_window_right := He.glo_ok X G (c.fact 35 (f := .glo "_law_window_right") rfl)
  have a__law_window_right : At K mg "_law_window_right" (He.fAd K d__law_window_right.at_) fd__law_window_right ["generator", "rest", "other"] := At.of F__law_window_right g__law_window_right (fun _ _ _ _ _ _ us hl => match us, hl with | [_, _, _], _ => rfl)
  have g__law_of_span := He.glo_ok X G (c.fact 36 (f := .glo "_law_of_span") rfl)
  have a__law_of_span : At K mg "_law_of_span" (He.fAd K d__law_of_span.at_) fd__law_of_span ["span"] := At.of F__law_of_span g__law_of_span (fun _ _ _ _ _ _ us hl => match us, hl with | [_], _ => rfl)
  have g_rest_of_span := He.glo_ok X G (c.fact 37 (f := .glo "rest_of_span") rfl)
  have a_rest_of_span : At K mg "rest_of_span" (He.fAd K d_rest_of_span.at_) fd_rest_of_span ["span"] := At.of F_rest_of_span g_rest_of_span (fun _ _ _ _ _ _ us hl => match us, hl with | [_], _ => rfl)
  have g_rest_of_range := He.glo_ok X G (c.fact 38 (f := .glo "rest_of_range") rfl)
  have a_rest_of_range : At K mg "rest_of_range" (He.fAd K d_rest_of_range.at_) fd_rest_of_range ["span"] := At.of F_rest_of_range g_rest_of_range (fun _ _ _ _ _ _ us hl => match us, hl with | [_], _ => rfl)
  have kb_k0_rest_of_range : KB fd_rest_of_range ["span"] 0 ["span"] [0] := kb_of F_rest_of_range (fun _ _ _ _ _ _ us ws h1 h2 => match us, h1, ws, h2 with | [], _, [_], _ => rfl)
  have g__law_range_right := He.glo_ok X G (c.fact 39 (f := .glo "_law_range_right") rfl)
  have a__law_range_right : At K mg "_law_range_right" (He.fAd K d__law_range_right.at_) fd__law_range_right ["generator", "rest", "far"] := At.of F__law_range_right g__law_range_right (fun _ _ _ _ _ _ us hl => match us, hl with | [_, _, _], _ => rfl)
  have g__law_common := He.glo_ok X G (c.fact 40 (f := .glo "_law_common") rfl)
  have a__law_common : At K mg "_law_common" (He.fAd K d__law_common.at_) fd__law_common ["one", "other"] := At.of F__law_common g__law_common (fun _ _ _ _ _ _ us hl => match us, hl with | [_, _], _ => rfl)
  have g_law := He.glo_ok X G (c.fact 41 (f := .glo "law") rfl)
  have e := hfa.symm.trans g_law
  cases e
  have b := FunD.bindsA (ps := ["script"]) F_law fun _ _ _ _ _ _ us hl => match us, hl with | [_], _ => rfl
  refine ⟨fd_law, fun s v => b s [v] rfl, fun base KB GB => ?_⟩
  have r__law_same : ∀ j : Nat, FnG P w K mg base (j + 0) (He.fAd K d__law_same.at_) fd__law_same ["found", "due"] (spA K (sem__law_same j)) := by
    intro j
    induction j with
    | zero => exact fnG_none
    | succ j ih0 =>
      have ih := a__law_same.cl ih0
      exact (ok_A (k := j + 0) F__law_same sc__law_same (b__law_same m_isinstance m_list m_tuple m_len m_zip m_all m_str m_int m_bool ih))
  have c__law_same := a__law_same.cl (r__law_same 12)
  have n__law_cell : FnG P w K mg base 1 (He.fAd K d__law_cell.at_) fd__law_cell ["script", "index"] (spA K sem__law_cell) := ok_A F__law_cell sc__law_cell (b__law_cell m_len m_sum)
  have c__law_cell := a__law_cell.cl n__law_cell
  have n__law_generator : FnG P w K mg base 2 (He.fAd K d__law_generator.at_) fd__law_generator ["script", "index"] (spF K sem__law_generator) := ok_F F__law_generator sc__law_generator (b__law_generator m_max m_int c__law_cell)
  have c__law_generator := a__law_generator.cl n__law_generator
  have n__law_hash : FnG P w K mg base 1 (He.fAd K d__law_hash.at_) fd__law_hash ["seed", "index"] (spA K sem__law_hash) := ok_A F__law_hash sc__law_hash (b__law_hash m_int)
  have c__law_hash := a__law_hash.cl n__law_hash
  have n__law_random : FnG P w K mg base 2 (He.fAd K d__law_random.at_) fd__law_random ["generator", "bound"] (spI K sem__law_random) := ok_I F__law_random sc__law_random (b__law_random m_int m_range c__law_hash)
  have c__law_random := a__law_random.cl n__law_random
  have n_is_whole : FnG P w K mg base 1 (He.fAd K d_is_whole.at_) fd_is_whole ["value"] (spA K sem_is_whole) := ok_A F_is_whole sc_is_whole (b_is_whole m_isinstance m_int m_bool)
  have c_is_whole := a_is_whole.cl n_is_whole
  have n_is_rest : FnG P w K mg base 2 (He.fAd K d_is_rest.at_) fd_is_rest ["value"] (spA K sem_is_rest) := ok_A F_is_rest sc_is_rest (b_is_rest m_isinstance m_tuple m_len c_is_whole)
  have c_is_rest := a_is_rest.cl n_is_rest
  have n_check_rest : FnG P w K mg base 3 (He.fAd K d_check_rest.at_) fd_check_rest ["rest"] (spA K sem_check_rest) := ok_A F_check_rest sc_check_rest (b_check_rest c_is_rest)
  have c_check_rest := a_check_rest.cl n_check_rest
  have n_check_two_rests : FnG P w K mg base 4 (He.fAd K d_check_two_rests.at_) fd_check_two_rests ["rest", "other"] (spA K sem_check_two_rests) := ok_A F_check_two_rests sc_check_two_rests (b_check_two_rests c_check_rest)
  have c_check_two_rests := a_check_two_rests.cl n_check_two_rests
  have n_common_step : FnG P w K mg base 1 (He.fAd K d_common_step.at_) fd_common_step ["one", "other"] (spA K sem_common_step) := ok_A F_common_step sc_common_step (b_common_step )
  have c_common_step := a_common_step.cl n_common_step
  have n_rest_from : FnG P w K mg base 1 (He.fAd K d_rest_from.at_) fd_rest_from ["first", "step"] (spA K sem_rest_from) := ok_A F_rest_from sc_rest_from (b_rest_from )
  have c_rest_from := a_rest_from.cl n_rest_from
  have n_in_rest : FnG P w K mg base 1 (He.fAd K d_in_rest.at_) fd_in_rest ["rest", "number"] (spA K sem_in_rest) := ok_A F_in_rest sc_in_rest (b_in_rest )
  have c_in_rest := a_in_rest.cl n_in_rest
  have n_turns_back : FnG P w K mg base 1 (He.fAd K d_turns_back.at_) fd_turns_back ["one", "other"] (spA K sem_turns_back) := ok_A F_turns_back sc_turns_back (b_turns_back )
  have c_turns_back := a_turns_back.cl n_turns_back
  have n_meet_rests : FnG P w K mg base 2 (He.fAd K d_meet_rests.at_) fd_meet_rests ["rest", "other"] (spA K sem_meet_rests) := ok_A F_meet_rests sc_meet_rests (b_meet_rests c_in_rest c_common_step c_turns_back c_rest_from)
  have c_meet_rests := a_meet_rests.cl n_meet_rests
  have n_rest_met : FnG P w K mg base 5 (He.fAd K d_rest_met.at_) fd_rest_met ["rest", "other"] (spA K sem_rest_met) := ok_A F_rest_met sc_rest_met (b_rest_met c_check_two_rests c_meet_rests)
  have c_rest_met := a_rest_met.cl n_rest_met
  have ck0_rest_met := a_rest_met.ck kb_k0_rest_met n_rest_met
  have n__law_rest : FnG P w K mg base 1 (He.fAd K d__law_rest.at_) fd__law_rest ["first", "step"] (spA K sem__law_rest) := ok_A F__law_rest sc__law_rest (b__law_rest m_int)
  have c__law_rest := a__law_rest.cl n__law_rest
  have n_check_rest_number : FnG P w K mg base 4 (He.fAd K d_check_rest_number.at_) fd_check_rest_number ["rest", "number"] (spA K sem_check_rest_number) := ok_A F_check_rest_number sc_check_rest_number (b_check_rest_number c_check_rest c_is_whole)
  have c_check_rest_number := a_check_rest_number.cl n_check_rest_number
  have n_move_rest : FnG P w K mg base 2 (He.fAd K d_move_rest.at_) fd_move_rest ["rest", "number"] (spA K sem_move_rest) := ok_A F_move_rest sc_move_rest (b_move_rest c_rest_from)
  have c_move_rest := a_move_rest.cl n_move_rest
  have n_rest_plus : FnG P w K mg base 5 (He.fAd K d_rest_plus.at_) fd_rest_plus ["rest", "number"] (spA K sem_rest_plus) := ok_A F_rest_plus sc_rest_plus (b_rest_plus c_check_rest_number c_move_rest)
  have c_rest_plus := a_rest_plus.cl n_rest_plus
  have ck0_rest_plus := a_rest_plus.ck kb_k0_rest_plus n_rest_plus
  have n_turn_rest : FnG P w K mg base 2 (He.fAd K d_turn_rest.at_) fd_turn_rest ["rest", "number"] (spA K sem_turn_rest) := ok_A F_turn_rest sc_turn_rest (b_turn_rest c_rest_from)
  have c_turn_rest := a_turn_rest.cl n_turn_rest
  have n_rest_turned : FnG P w K mg base 5 (He.fAd K d_rest_turned.at_) fd_rest_turned ["rest", "number"] (spA K sem_rest_turned) := ok_A F_rest_turned sc_rest_turned (b_rest_turned c_check_rest_number c_turn_rest)
  have c_rest_turned := a_rest_turned.cl n_rest_turned
  have ck0_rest_turned := a_rest_turned.ck kb_k0_rest_turned n_rest_turned
  have n__law_in : FnG P w K mg base 1 (He.fAd K d__law_in.at_) fd__law_in ["rest", "number"] (spA K sem__law_in) := ok_A F__law_in sc__law_in (b__law_in m_int)
  have c__law_in := a__law_in.cl n__law_in
  have n_rest_holds : FnG P w K mg base 5 (He.fAd K d_rest_holds.at_) fd_rest_holds ["rest", "number"] (spA K sem_rest_holds) := ok_A F_rest_holds sc_rest_holds (b_rest_holds c_check_rest_number c_in_rest)
  have c_rest_holds := a_rest_holds.cl n_rest_holds
  have ck0_rest_holds := a_rest_holds.ck kb_k0_rest_holds n_rest_holds
  have n__law_moved_right : FnG P w K mg base 13 (He.fAd K d__law_moved_right.at_) fd__law_moved_right ["generator", "rest", "number"] (spA K sem__law_moved_right) := ok_A F__law_moved_right sc__law_moved_right (b__law_moved_right c__law_rest c_rest_plus ck0_rest_plus c_rest_turned ck0_rest_turned c__law_same c__law_in c_rest_holds ck0_rest_holds)
  have c__law_moved_right := a__law_moved_right.cl n__law_moved_right
  have n_join_rests : FnG P w K mg base 2 (He.fAd K d_join_rests.at_) fd_join_rests ["rest", "other"] (spA K sem_join_rests) := ok_A F_join_rests sc_join_rests (b_join_rests m_abs c_rest_from c_common_step)
  have c_join_rests := a_join_rests.cl n_join_rests
  have n_rest_joined : FnG P w K mg base 5 (He.fAd K d_rest_joined.at_) fd_rest_joined ["rest", "other"] (spA K sem_rest_joined) := ok_A F_rest_joined sc_rest_joined (b_rest_joined c_check_two_rests c_join_rests)
  have c_rest_joined := a_rest_joined.cl n_rest_joined
  have ck0_rest_joined := a_rest_joined.ck kb_k0_rest_joined n_rest_joined
  have n_tight_of : FnG P w K mg base 1 (He.fAd K d_tight_of.at_) fd_tight_of ["span", "rest"] (spA K sem_tight_of) := ok_A F_tight_of sc_tight_of (b_tight_of )
  have c_tight_of := a_tight_of.cl n_tight_of
  have n_is_end : FnG P w K mg base 2 (He.fAd K d_is_end.at_) fd_is_end ["value"] (spA K sem_is_end) := ok_A F_is_end sc_is_end (b_is_end c_is_whole)
  have c_is_end := a_is_end.cl n_is_end
  have n_is_range : FnG P w K mg base 3 (He.fAd K d_is_range.at_) fd_is_range ["value"] (spA K sem_is_range) := ok_A F_is_range sc_is_range (b_is_range m_isinstance m_tuple m_len c_is_end)
  have c_is_range := a_is_range.cl n_is_range
  have n_tight_range : FnG P w K mg base 4 (He.fAd K d_tight_range.at_) fd_tight_range ["span", "rest"] (spA K sem_tight_range) := ok_A F_tight_range sc_tight_range (b_tight_range c_is_range c_check_rest c_tight_of)
  have c_tight_range := a_tight_range.cl n_tight_range
  have ck0_tight_range := a_tight_range.ck kb_k0_tight_range n_tight_range
  have n__law_pick : FnG P w K mg base 3 (He.fAd K d__law_pick.at_) fd__law_pick ["generator", "things"] (spI K sem__law_pick) := ok_I F__law_pick sc__law_pick (b__law_pick m_len c__law_random)
  have c__law_pick := a__law_pick.cl n__law_pick
  have n__law_some_rest : FnG P w K mg base 4 (He.fAd K d__law_some_rest.at_) fd__law_some_rest ["generator", "far"] (spI K sem__law_some_rest) := ok_I F__law_some_rest sc__law_some_rest (b__law_some_rest c__law_pick c__law_random)
  have c__law_some_rest := a__law_some_rest.cl n__law_some_rest
  have n__law_numbers : FnG P w K mg base 2 (He.fAd K d__law_numbers.at_) fd__law_numbers ["rest", "low", "high"] (spA K sem__law_numbers) := ok_A F__law_numbers sc__law_numbers (b__law_numbers m_range c__law_in)
  have c__law_numbers := a__law_numbers.cl n__law_numbers
  have n_within_rest : FnG P w K mg base 2 (He.fAd K d_within_rest.at_) fd_within_rest ["rest", "other"] (spA K sem_within_rest) := ok_A F_within_rest sc_within_rest (b_within_rest c_in_rest)
  have c_within_rest := a_within_rest.cl n_within_rest
  have n_rest_within : FnG P w K mg base 5 (He.fAd K d_rest_within.at_) fd_rest_within ["rest", "other"] (spA K sem_rest_within) := ok_A F_rest_within sc_rest_within (b_rest_within c_check_two_rests c_within_rest)
  have c_rest_within := a_rest_within.cl n_rest_within
  have ck0_rest_within := a_rest_within.ck kb_k0_rest_within n_rest_within
  have n__law_window_right : FnG P w K mg base 13 (He.fAd K d__law_window_right.at_) fd__law_window_right ["generator", "rest", "other"] (spA K sem__law_window_right) := ok_A F__law_window_right sc__law_window_right (b__law_window_right m_max m_list m_range m_int m_len m_set c__law_numbers c_rest_met c_rest_joined c__law_same ck0_rest_met ck0_rest_joined c_is_rest c__law_in c_rest_within ck0_rest_within)
  have c__law_window_right := a__law_window_right.cl n__law_window_right
  have n__law_of_span : FnG P w K mg base 1 (He.fAd K d__law_of_span.at_) fd__law_of_span ["span"] (spA K sem__law_of_span) := ok_A F__law_of_span sc__law_of_span (b__law_of_span )
  have c__law_of_span := a__law_of_span.cl n__law_of_span
  have n_rest_of_span : FnG P w K mg base 1 (He.fAd K d_rest_of_span.at_) fd_rest_of_span ["span"] (spA K sem_rest_of_span) := ok_A F_rest_of_span sc_rest_of_span (b_rest_of_span )
  have c_rest_of_span := a_rest_of_span.cl n_rest_of_span
  have n_rest_of_range : FnG P w K mg base 4 (He.fAd K d_rest_of_range.at_) fd_rest_of_range ["span"] (spA K sem_rest_of_range) := ok_A F_rest_of_range sc_rest_of_range (b_rest_of_range c_is_range c_rest_of_span)
  have c_rest_of_range := a_rest_of_range.cl n_rest_of_range
  have ck0_rest_of_range := a_rest_of_range.ck kb_k0_rest_of_range n_rest_of_range
  have n__law_range_right : FnG P w K mg base 13 (He.fAd K d__law_range_right.at_) fd__law_range_right ["generator", "rest", "far"] (spI K sem__law_range_right) := ok_I F__law_range_right sc__law_range_right (b__law_range_right m_range c__law_random c__law_of_span c__law_same c_rest_of_range ck0_rest_of_range c_tight_range ck0_tight_range c__law_in)
  have c__law_range_right := a__law_range_right.cl n__law_range_right
  have n__law_common : FnG P w K mg base 1 (He.fAd K d__law_common.at_) fd__law_common ["one", "other"] (spA K sem__law_common) := ok_A F__law_common sc__law_common (b__law_common m_int)
  have c__law_common := a__law_common.cl n__law_common
  exact ok_A F_law sc_law (b_law m_range c__law_generator c__law_some_rest c__law_window_right c__law_moved_right c__law_random c__law_range_right c__law_same c_rest_joined c_rest_met c__law_rest c__law_common c_tight_range)
end LW

namespace RT
/-! ## rests: the numbers f, f + s, f - s, .. -/
def Mem (f s n : Int) : Prop := s ∣ n - f
def Can (f s : Int) : Prop := 0 ≤ s ∧ (s = 0 ∨ (0 ≤ f ∧ f < s))
def Sbs (f s g t : Int) : Prop := t ∣ f - g ∧ t ∣ s
theorem mem_self (f s : Int) : Mem f s f := by unfold Mem; rw [Int.sub_self]; exact Int.dvd_zero s
theorem mem_next (f s : Int) : Mem f s (f + s) := by unfold Mem; rw [show f + s - f = s by omega]; exact Int.dvd_refl s
theorem dvd_of {a b : Int} (k : Int) (h : b = a * k) : a ∣ b := ⟨k, h⟩
theorem sub_mem {f s g t : Int} : (∀ n, Mem f s n → Mem g t n) ↔ Sbs f s g t := by
  constructor
  · intro h
    have h1 := h f (mem_self f s)
    have h2 := h (f + s) (mem_next f s)
    unfold Mem at h1 h2
    refine ⟨h1, ?_⟩
    obtain ⟨a, ha⟩ := h1
    obtain ⟨b, hb⟩ := h2
    exact dvd_of (b - a) (by grind)
  · rintro ⟨⟨a, ha⟩, ⟨b, hb⟩⟩ n ⟨c, hc⟩
    exact dvd_of (a + b * c) (by grind)
theorem sub_refl (f s : Int) : Sbs f s f s := sub_mem.mp fun _ h => h
theorem sub_trans {f s g t h u : Int} (a : Sbs f s g t) (b : Sbs g t h u) : Sbs f s h u := sub_mem.mp fun n x => sub_mem.mpr b n (sub_mem.mpr a n x)
theorem zero_dvd' {a : Int} (h : (0 : Int) ∣ a) : a = 0 := by
  obtain ⟨k, hk⟩ := h
  rw [hk, Int.zero_mul]
theorem close_eq {s a b : Int} (h : s ∣ a - b) (ha : 0 ≤ a ∧ a < s) (hb : 0 ≤ b ∧ b < s) : a = b := by
  have h1 := Int.emod_eq_of_lt ha.1 ha.2
  have h2 := Int.emod_eq_of_lt hb.1 hb.2
  have h3 := (Int.emod_emod_of_dvd a (Int.dvd_refl s))
  have h4 : a % s = b % s := Int.emod_eq_emod_iff_emod_sub_eq_zero.mpr (Int.emod_eq_zero_of_dvd h)
  omega
theorem can_ext {f s g t : Int} (h : Can f s) (h' : Can g t) (a : Sbs f s g t) (b : Sbs g t f s) : f = g ∧ s = t := by
  have e : s = t := Int.dvd_antisymm h.1 h'.1 b.2 a.2
  subst e
  refine ⟨?_, rfl⟩
  rcases h.2 with z | z
  · subst z
    have := zero_dvd' a.1
    omega
  · rcases h'.2 with y | y
    · subst y
      omega
    · exact close_eq a.1 z y
theorem can_same {f s g t : Int} (h : Can f s) (h' : Can g t) (e : ∀ n, Mem f s n ↔ Mem g t n) : f = g ∧ s = t :=
  can_ext h h' (sub_mem.mp fun n => (e n).mp) (sub_mem.mp fun n => (e n).mpr)
/-! made canonical -/
def fr (f s : Int) : Int × Int := if s = 0 then (f, 0) else (f % s, s)
theorem fr_zero (f : Int) : fr f 0 = (f, 0) := if_pos rfl
theorem fr_pos {f s : Int} (h : s ≠ 0) : fr f s = (f % s, s) := if_neg h
theorem fr_can (f : Int) {s : Int} (h : 0 ≤ s) : Can (fr f s).1 (fr f s).2 := by
  by_cases e : s = 0
  · subst e; rw [fr_zero]; exact ⟨Int.le_refl 0, .inl rfl⟩
  · rw [fr_pos e]
    exact ⟨h, .inr ⟨Int.emod_nonneg f e, Int.emod_lt_of_pos f (by omega)⟩⟩
theorem emod_dvd (f s : Int) : s ∣ f - f % s := dvd_of (f / s) (by have := Int.mul_ediv_add_emod f s; omega)
theorem fr_mem (f s n : Int) : Mem (fr f s).1 (fr f s).2 n ↔ Mem f s n := by
  by_cases e : s = 0
  · subst e; rw [fr_zero]
  · rw [fr_pos e]
    obtain ⟨a, ha⟩ := emod_dvd f s
    constructor
    · rintro ⟨k, hk⟩
      exact dvd_of (k - a) (by grind)
    · rintro ⟨k, hk⟩
      exact dvd_of (k + a) (by grind)
theorem fr_sub (f s : Int) : Sbs (fr f s).1 (fr f s).2 f s := sub_mem.mp fun n => (fr_mem f s n).mp
theorem sub_fr (f s : Int) : Sbs f s (fr f s).1 (fr f s).2 := sub_mem.mp fun n => (fr_mem f s n).mpr
theorem fr_of_can {f s : Int} (h : Can f s) : fr f s = (f, s) := by
  have := can_ext (fr_can f h.1) h (fr_sub f s) (sub_fr f s)
  exact Prod.ext this.1 this.2
/-- the same set, the same rest -/
theorem fr_eq {f s g t : Int} (hs : 0 ≤ s) (ht : 0 ≤ t) (a : Sbs f s g t) (b : Sbs g t f s) : fr f s = fr g t := by
  have := can_ext (fr_can f hs) (fr_can g ht) (sub_trans (fr_sub f s) (sub_trans a (sub_fr g t))) (sub_trans (fr_sub g t) (sub_trans b (sub_fr f s)))
  exact Prod.ext this.1 this.2
/-- test of membership, as the programs do it -/
def inQ (f s n : Int) : Bool := if s = 0 then decide (n = f) else decide ((n - f) % s = 0)
theorem inQ_iff (f s n : Int) : inQ f s n = true ↔ Mem f s n := by
  unfold inQ Mem
  split
  · rename_i e; subst e
    rw [decide_eq_true_iff]
    constructor
    · intro h; rw [h, Int.sub_self]; exact Int.dvd_refl 0
    · intro h; have := zero_dvd' h; omega
  · rw [decide_eq_true_iff]
    exact ⟨Int.dvd_of_emod_eq_zero, Int.emod_eq_zero_of_dvd⟩
/-! ## joined -/
def gc (a b : Int) : Int := (Int.gcd a b : Int)
theorem gc_nn (a b : Int) : 0 ≤ gc a b := Int.natCast_nonneg _
theorem dvd_gc {d a b : Int} : d ∣ gc a b ↔ d ∣ a ∧ d ∣ b := Int.dvd_coe_gcd_iff
def jn (r o : Int × Int) : Int × Int := fr r.1 (gc (gc r.2 o.2) ((r.1 - o.1).natAbs : Int))
theorem dvd_natAbs' {d a : Int} : d ∣ (a.natAbs : Int) ↔ d ∣ a := Int.dvd_natAbs
theorem jn_can (r o : Int × Int) : Can (jn r o).1 (jn r o).2 := fr_can _ (gc_nn _ _)
/-- the least one that holds both -/
theorem jn_sub (r o : Int × Int) (h d : Int) : Sbs (jn r o).1 (jn r o).2 h d ↔ Sbs r.1 r.2 h d ∧ Sbs o.1 o.2 h d := by
  have key : Sbs r.1 (gc (gc r.2 o.2) ((r.1 - o.1).natAbs : Int)) h d ↔ Sbs r.1 r.2 h d ∧ Sbs o.1 o.2 h d := by
    unfold Sbs
    rw [dvd_gc, dvd_gc, dvd_natAbs']
    constructor
    · rintro ⟨⟨a, ha⟩, ⟨h2, h3⟩, ⟨b, hb⟩⟩
      exact ⟨⟨⟨a, ha⟩, h2⟩, dvd_of (a - b) (by grind), h3⟩
    · rintro ⟨⟨⟨a, ha⟩, h2⟩, ⟨⟨b, hb⟩, h3⟩⟩
      exact ⟨⟨a, ha⟩, ⟨h2, h3⟩, dvd_of (a - b) (by grind)⟩
  exact ⟨fun x => key.mp (sub_trans (sub_fr _ _) x), fun x => sub_trans (fr_sub _ _) (key.mpr x)⟩
theorem jn_left (r o : Int × Int) : Sbs r.1 r.2 (jn r o).1 (jn r o).2 := ((jn_sub r o _ _).mp (sub_refl _ _)).1
theorem jn_right (r o : Int × Int) : Sbs o.1 o.2 (jn r o).1 (jn r o).2 := ((jn_sub r o _ _).mp (sub_refl _ _)).2
theorem pair_eq {a b : Int × Int} (h : a.1 = b.1 ∧ a.2 = b.2) : a = b := Prod.ext h.1 h.2
theorem jn_comm (r o : Int × Int) : jn r o = jn o r :=
  pair_eq (can_ext (jn_can r o) (jn_can o r) ((jn_sub r o _ _).mpr ⟨jn_right o r, jn_left o r⟩) ((jn_sub o r _ _).mpr ⟨jn_right r o, jn_left r o⟩))
theorem jn_assoc (r o t : Int × Int) : jn (jn r o) t = jn r (jn o t) := by
  refine pair_eq (can_ext (jn_can _ _) (jn_can _ _) ?_ ?_)
  · refine (jn_sub _ _ _ _).mpr ⟨(jn_sub _ _ _ _).mpr ⟨jn_left _ _, sub_trans (jn_left o t) (jn_right _ _)⟩, sub_trans (jn_right o t) (jn_right _ _)⟩
  · refine (jn_sub _ _ _ _).mpr ⟨sub_trans (jn_left r o) (jn_left _ _), (jn_sub _ _ _ _).mpr ⟨sub_trans (jn_right r o) (jn_left _ _), jn_right _ _⟩⟩
theorem jn_self {r : Int × Int} (h : Can r.1 r.2) : jn r r = r :=
  pair_eq (can_ext (jn_can _ _) h ((jn_sub _ _ _ _).mpr ⟨sub_refl _ _, sub_refl _ _⟩) (jn_left _ _))
/-! ## met -/
def IsMt (r o : Int × Int) : Option (Int × Int) → Prop
  | none => ∀ n, ¬ (Mem r.1 r.2 n ∧ Mem o.1 o.2 n)
  | some m => Can m.1 m.2 ∧ ∀ n, Mem m.1 m.2 n ↔ (Mem r.1 r.2 n ∧ Mem o.1 o.2 n)
theorem isMt_uniq {r o : Int × Int} {x y : Option (Int × Int)} (h : IsMt r o x) (h' : IsMt r o y) : x = y := by
  cases x with
  | none =>
    cases y with
    | none => rfl
    | some m => exact absurd ((h'.2 m.1).mp (mem_self _ _)) (h m.1)
  | some m =>
    cases y with
    | none => exact absurd ((h.2 m.1).mp (mem_self _ _)) (h' m.1)
    | some m' => exact congrArg some (pair_eq (can_same h.1 h'.1 fun n => (h.2 n).trans (h'.2 n).symm))
theorem isMt_comm {r o : Int × Int} {x : Option (Int × Int)} (h : IsMt r o x) : IsMt o r x := by
  cases x with
  | none => exact fun n z => h n ⟨z.2, z.1⟩
  | some m => exact ⟨h.1, fun n => (h.2 n).trans ⟨fun z => ⟨z.2, z.1⟩, fun z => ⟨z.2, z.1⟩⟩⟩
/-- the reckoning for two steps above 0: i turns the step s / c back modulo t / c -/
theorem mt_pos {f s g t c p u : Int} (hs : 0 < s) (ht : 0 < t) (hc : 0 < c) (ht' : t = c * p) (hcs : c ∣ s) (hu : p ∣ (s / c) * u - (g - f) / c) (hg : c ∣ g - f) (hi : ∀ k, p ∣ (s / c) * k → p ∣ k) :
    IsMt (f, s) (g, t) (some (fr (f + s * u) (s * p))) := by
  have hp : 0 < p := by
    rcases Int.lt_trichotomy p 0 with z | z | z
    · have := Int.mul_neg_of_pos_of_neg hc z; omega
    · subst z; omega
    · exact z
  have hsp : 0 ≤ s * p := Int.mul_nonneg (by omega) (by omega)
  refine ⟨fr_can _ hsp, fun n => (fr_mem _ _ n).trans ?_⟩
  obtain ⟨s', rfl⟩ := hcs
  obtain ⟨q, hq⟩ := hg
  have e1 : c * s' / c = s' := Int.mul_ediv_cancel_left s' (by omega)
  have e2 : (g - f) / c = q := by rw [hq]; exact Int.mul_ediv_cancel_left q (by omega)
  rw [e1] at hu hi
  rw [e2] at hu
  obtain ⟨w, hw⟩ := hu
  subst ht'
  constructor
  · rintro ⟨k, hk⟩
    refine ⟨dvd_of (u + p * k) (by grind), dvd_of (w + s' * k) (by grind)⟩
  · rintro ⟨⟨k, hk⟩, ⟨l, hl⟩⟩
    have h1 : p ∣ s' * (k - u) := by
      refine dvd_of (l - w) ?_
      have : c * (s' * (k - u)) = c * (p * (l - w)) := by
        simp only at hk hl
        grind
      exact Int.eq_of_mul_eq_mul_left (by omega) this
    obtain ⟨m, hm⟩ := hi _ h1
    exact dvd_of m (by simp only at hk hl; grind)
theorem mt_none {f s g t c : Int} (hcs : c ∣ s) (hct : c ∣ t) (h : ¬ c ∣ g - f) : IsMt (f, s) (g, t) none := by
  rintro n ⟨⟨a, ha⟩, ⟨b, hb⟩⟩
  obtain ⟨s', rfl⟩ := hcs
  obtain ⟨t', rfl⟩ := hct
  exact h (dvd_of (s' * a - t' * b) (by simp only at ha hb; grind))
theorem mt_zero {f g t : Int} : IsMt (f, 0) (g, t) (if inQ g t f = true then some (f, 0) else none) := by
  split
  · rename_i h
    rw [inQ_iff] at h
    refine ⟨⟨Int.le_refl 0, .inl rfl⟩, fun n => ⟨fun z => ⟨z, ?_⟩, fun z => z.1⟩⟩
    have := zero_dvd' z
    have : n = f := by simp only at this; omega
    subst this
    exact h
  · rename_i h
    rintro n ⟨h1, h2⟩
    have := zero_dvd' h1
    have : n = f := by simp only at this; omega
    subst this
    exact h ((inQ_iff _ _ _).mpr h2)
/-- the two parts have no divisor in common -/
theorem gc_parts {s t : Int} (hs : 0 < s) (ht : 0 < t) : 0 < gc s t ∧ gc s t ∣ s ∧ gc s t ∣ t ∧ gc (s / gc s t) (t / gc s t) = 1 := by
  have hd := dvd_gc.mp (Int.dvd_refl (gc s t))
  have hp : 0 < gc s t := by
    have h0 := gc_nn s t
    rcases Int.lt_or_eq_of_le h0 with h | h
    · exact h
    · rw [← h] at hd
      have := zero_dvd' hd.1
      omega
  refine ⟨hp, hd.1, hd.2, ?_⟩
  have e := dvd_gc.mp (Int.dvd_refl (gc (s / gc s t) (t / gc s t)))
  have hs' := Int.mul_ediv_cancel' hd.1
  have ht' := Int.mul_ediv_cancel' hd.2
  have h3 : gc s t * gc (s / gc s t) (t / gc s t) ∣ gc s t := by
    refine dvd_gc.mpr ⟨?_, ?_⟩
    · obtain ⟨k, hk⟩ := e.1
      exact dvd_of k (by rw [Int.mul_assoc, ← hk]; exact hs'.symm)
    · obtain ⟨k, hk⟩ := e.2
      exact dvd_of k (by rw [Int.mul_assoc, ← hk]; exact ht'.symm)
  have h4 : gc (s / gc s t) (t / gc s t) ∣ 1 := by
    obtain ⟨k, hk⟩ := h3
    refine dvd_of k ?_
    have : gc s t * 1 = gc s t * (gc (s / gc s t) (t / gc s t) * k) := by rw [Int.mul_one, ← Int.mul_assoc]; exact hk
    exact Int.eq_of_mul_eq_mul_left (by omega) this
  exact Int.eq_one_of_dvd_one (gc_nn _ _) h4
theorem gc_zero {a : Int} (h : 0 ≤ a) : gc a 0 = a := by unfold gc; rw [Int.gcd_zero_right]; omega
theorem gc_step (a b : Int) : gc b (a % b) = gc a b := by
  refine Int.dvd_antisymm (gc_nn _ _) (gc_nn _ _) (dvd_gc.mpr ?_) (dvd_gc.mpr ?_)
  · obtain ⟨⟨x, hx⟩, ⟨y, hy⟩⟩ := dvd_gc.mp (Int.dvd_refl (gc b (a % b)))
    obtain ⟨z, hz⟩ := emod_dvd a b
    exact ⟨dvd_of (y + x * z) (by grind), ⟨x, hx⟩⟩
  · obtain ⟨⟨x, hx⟩, ⟨y, hy⟩⟩ := dvd_gc.mp (Int.dvd_refl (gc a b))
    obtain ⟨z, hz⟩ := emod_dvd a b
    exact ⟨⟨y, hy⟩, dvd_of (x - y * z) (by grind)⟩
end RT

set_option maxRecDepth 20000
set_option maxHeartbeats 0
namespace LW
open PySem PySem.Spec PyProof.Rows L2 MP RT
abbrev eR (r : Int × Int) : D := .tuple [.int r.1, .int r.2]
def eO : Option (Int × Int) → D
  | none => .none
  | some r => eR r
theorem e_is_whole (i : Int) : sem_is_whole [.int i] = some (.bool true) := by
  rw [sem_is_whole, g_is_whole]
  simp only [x_seq, x_seq1, x_seq2, x_seq3, x_seq4, x_seq5, x_asg, x_asg1, x_asgF, x_asgF1, x_exp, x_exp1, x_ret, x_ret1, x_retF, x_retF1, x_retN, x_skip, x_brk, x_cnt, x_if, x_if1, x_if2, x_and, x_and1, x_and2, x_or, x_or1, x_or2, x_not, x_not1, x_bool, x_bool1, x_andV, x_andV1, x_andV2, x_orV, x_orV1, x_orV2, x_notV, x_notV1, x_ifV, x_ifV1, x_ifV2, x_cE, x_nm, x_nm1, x_nm2, x_rd, x_rd1, x_rd2, x_rd3, x_ev0, x_ev, x_ev1, x_ev2, x_pk, x_pk1, x_pk2, x_pk3, x_vv0, x_vv, x_vv1, x_op, x_op1, x_op2, x_ca, x_ck, x_ci, x_ci0, x_ci1, x_ci2, x_ci3, x_ci4, x_ci5, x_tup, x_tup1, x_lst, x_lst1, x_ch, x_ch1, x_ch2, x_ch3, x_ch4, x_ch5, x_asgT, x_asgT1, x_nx, x_par, x_par1, x_par2, x_par3, x_par31, x_par32, x_par33, x_tn, x_t0, x_tc, x_ts, x_ts0, x_ts1, x_up1, x_up2, x_upO, x_upI, x_app, x_app0, x_app1, x_for, x_for1, x_fl1, x_fl2, x_fl3, x_fl4, x_fl5, x_fl6, x_turn, x_its, x_its1, x_its2, x_its3, x_rg1, x_rg2, x_rg21, x_en, x_en1, x_zp, x_zp1, x_zp2, x_zp3, x_st, x_st0, x_st1, x_st2, x_st3, x_yes, x_lc2, x_rA1, x_rA2, x_rF1, x_rI1, x_rI2, x_wh1, x_wh2, x_wh3, x_wh4, x_wh5, o_add, o_sub, o_neg, o_lt, o_le, o_gt, o_ge, o_eq, o_ne, o_eqB, o_neB, o_int, o_abs, o_max, o_min, o_lenL, o_lenT, o_ix0, o_ix1, o_ixl0, o_ixl1, o_ixl2, o_isi, o_isi2, o_isN, o_notN, o_isB, o_notB, x_A0, x_F0, x_I0, x_A1, x_F1, x_I1, x_A2, x_F2, x_I2, x_A3, x_F3, x_I3, x_A4, x_F4, x_I4, x_A5, x_F5, x_I5, x_A6, x_F6, x_I6, x_A7, x_F7, x_I7, x_A8, x_F8, x_I8, x_wi0, x_wi, x_re0, x_re, x_re1, x_ok0, x_ok, x_ok1, x_ok2, o_not0, x_g0, x_gS, x_s0, x_sS, x_bs, x_bn, x_ms, x_isNnone, x_isNbool, x_isNint, x_isNstr, x_isNlist, x_isNtuple, x_isNdict, x_tyintnone, x_tyintbool, x_tyintint, x_tyintstr, x_tyintlist, x_tyinttuple, x_tyintdict, x_tyboolnone, x_tyboolbool, x_tyboolint, x_tyboolstr, x_tyboollist, x_tybooltuple, x_tybooldict, x_tystrnone, x_tystrbool, x_tystrint, x_tystrstr, x_tystrlist, x_tystrtuple, x_tystrdict, x_tytupnone, x_tytupbool, x_tytupint, x_tytupstr, x_tytuplist, x_tytuptuple, x_tytupdict, x_tylstnone, x_tylstbool, x_tylstint, x_tylststr, x_tylstlist, x_tylsttuple, x_tylstdict, x_tydctnone, x_tydctbool, x_tydctint, x_tydctstr, x_tydctlist, x_tydcttuple, x_tydctdict, x_be0, x_bn0, x_be1, x_bn1, x_be2, x_bn2, x_be3, x_bn3, List.length_cons, List.length_nil, List.map_cons, List.map_nil, List.replicate, List.cons_append, List.nil_append, List.append_nil, startE, pick, List.filterMap_cons, List.filterMap_nil, Bool.or_false, Bool.false_or, Bool.or_true, Bool.true_or, Bool.and_true, Bool.true_and, Bool.and_false, Bool.false_and, Bool.not_true, Bool.not_false, Bool.not_not, decide_true, decide_false, Int.cast_ofNat_Int, Nat.reduceAdd, Nat.zero_add, Int.reduceEq, Int.reduceLT, Int.reduceLE, Int.reduceGT, Int.reduceGE, Int.reduceAdd, Int.reduceSub, Int.reduceMul, Int.reduceNeg, Int.reducePow, Int.reduceToNat]
theorem e_is_rest {f s : Int} (h : Can f s) : sem_is_rest [.tuple [.int f, .int s]] = some (.bool true) := by
  rw [sem_is_rest, g_is_rest]
  simp only [e_is_whole, x_seq, x_seq1, x_seq2, x_seq3, x_seq4, x_seq5, x_asg, x_asg1, x_asgF, x_asgF1, x_exp, x_exp1, x_ret, x_ret1, x_retF, x_retF1, x_retN, x_skip, x_brk, x_cnt, x_if, x_if1, x_if2, x_and, x_and1, x_and2, x_or, x_or1, x_or2, x_not, x_not1, x_bool, x_bool1, x_andV, x_andV1, x_andV2, x_orV, x_orV1, x_orV2, x_notV, x_notV1, x_ifV, x_ifV1, x_ifV2, x_cE, x_nm, x_nm1, x_nm2, x_rd, x_rd1, x_rd2, x_rd3, x_ev0, x_ev, x_ev1, x_ev2, x_pk, x_pk1, x_pk2, x_pk3, x_vv0, x_vv, x_vv1, x_op, x_op1, x_op2, x_ca, x_ck, x_ci, x_ci0, x_ci1, x_ci2, x_ci3, x_ci4, x_ci5, x_tup, x_tup1, x_lst, x_lst1, x_ch, x_ch1, x_ch2, x_ch3, x_ch4, x_ch5, x_asgT, x_asgT1, x_nx, x_par, x_par1, x_par2, x_par3, x_par31, x_par32, x_par33, x_tn, x_t0, x_tc, x_ts, x_ts0, x_ts1, x_up1, x_up2, x_upO, x_upI, x_app, x_app0, x_app1, x_for, x_for1, x_fl1, x_fl2, x_fl3, x_fl4, x_fl5, x_fl6, x_turn, x_its, x_its1, x_its2, x_its3, x_rg1, x_rg2, x_rg21, x_en, x_en1, x_zp, x_zp1, x_zp2, x_zp3, x_st, x_st0, x_st1, x_st2, x_st3, x_yes, x_lc2, x_rA1, x_rA2, x_rF1, x_rI1, x_rI2, x_wh1, x_wh2, x_wh3, x_wh4, x_wh5, o_add, o_sub, o_neg, o_lt, o_le, o_gt, o_ge, o_eq, o_ne, o_eqB, o_neB, o_int, o_abs, o_max, o_min, o_lenL, o_lenT, o_ix0, o_ix1, o_ixl0, o_ixl1, o_ixl2, o_isi, o_isi2, o_isN, o_notN, o_isB, o_notB, x_A0, x_F0, x_I0, x_A1, x_F1, x_I1, x_A2, x_F2, x_I2, x_A3, x_F3, x_I3, x_A4, x_F4, x_I4, x_A5, x_F5, x_I5, x_A6, x_F6, x_I6, x_A7, x_F7, x_I7, x_A8, x_F8, x_I8, x_wi0, x_wi, x_re0, x_re, x_re1, x_ok0, x_ok, x_ok1, x_ok2, o_not0, x_g0, x_gS, x_s0, x_sS, x_bs, x_bn, x_ms, x_isNnone, x_isNbool, x_isNint, x_isNstr, x_isNlist, x_isNtuple, x_isNdict, x_tyintnone, x_tyintbool, x_tyintint, x_tyintstr, x_tyintlist, x_tyinttuple, x_tyintdict, x_tyboolnone, x_tyboolbool, x_tyboolint, x_tyboolstr, x_tyboollist, x_tybooltuple, x_tybooldict, x_tystrnone, x_tystrbool, x_tystrint, x_tystrstr, x_tystrlist, x_tystrtuple, x_tystrdict, x_tytupnone, x_tytupbool, x_tytupint, x_tytupstr, x_tytuplist, x_tytuptuple, x_tytupdict, x_tylstnone, x_tylstbool, x_tylstint, x_tylststr, x_tylstlist, x_tylsttuple, x_tylstdict, x_tydctnone, x_tydctbool, x_tydctint, x_tydctstr, x_tydctlist, x_tydcttuple, x_tydctdict, x_be0, x_bn0, x_be1, x_bn1, x_be2, x_bn2, x_be3, x_bn3, List.length_cons, List.length_nil, List.map_cons, List.map_nil, List.replicate, List.cons_append, List.nil_append, List.append_nil, startE, pick, List.filterMap_cons, List.filterMap_nil, Bool.or_false, Bool.false_or, Bool.or_true, Bool.true_or, Bool.and_true, Bool.true_and, Bool.and_false, Bool.false_and, Bool.not_true, Bool.not_false, Bool.not_not, decide_true, decide_false, Int.cast_ofNat_Int, Nat.reduceAdd, Nat.zero_add, Int.reduceEq, Int.reduceLT, Int.reduceLE, Int.reduceGT, Int.reduceGE, Int.reduceAdd, Int.reduceSub, Int.reduceMul, Int.reduceNeg, Int.reducePow, Int.reduceToNat]
  rcases h.2 with z | ⟨z1, z2⟩
  · subst z
    simp only [x_seq, x_seq1, x_seq2, x_seq3, x_seq4, x_seq5, x_asg, x_asg1, x_asgF, x_asgF1, x_exp, x_exp1, x_ret, x_ret1, x_retF, x_retF1, x_retN, x_skip, x_brk, x_cnt, x_if, x_if1, x_if2, x_and, x_and1, x_and2, x_or, x_or1, x_or2, x_not, x_not1, x_bool, x_bool1, x_andV, x_andV1, x_andV2, x_orV, x_orV1, x_orV2, x_notV, x_notV1, x_ifV, x_ifV1, x_ifV2, x_cE, x_nm, x_nm1, x_nm2, x_rd, x_rd1, x_rd2, x_rd3, x_ev0, x_ev, x_ev1, x_ev2, x_pk, x_pk1, x_pk2, x_pk3, x_vv0, x_vv, x_vv1, x_op, x_op1, x_op2, x_ca, x_ck, x_ci, x_ci0, x_ci1, x_ci2, x_ci3, x_ci4, x_ci5, x_tup, x_tup1, x_lst, x_lst1, x_ch, x_ch1, x_ch2, x_ch3, x_ch4, x_ch5, x_asgT, x_asgT1, x_nx, x_par, x_par1, x_par2, x_par3, x_par31, x_par32, x_par33, x_tn, x_t0, x_tc, x_ts, x_ts0, x_ts1, x_up1, x_up2, x_upO, x_upI, x_app, x_app0, x_app1, x_for, x_for1, x_fl1, x_fl2, x_fl3, x_fl4, x_fl5, x_fl6, x_turn, x_its, x_its1, x_its2, x_its3, x_rg1, x_rg2, x_rg21, x_en, x_en1, x_zp, x_zp1, x_zp2, x_zp3, x_st, x_st0, x_st1, x_st2, x_st3, x_yes, x_lc2, x_rA1, x_rA2, x_rF1, x_rI1, x_rI2, x_wh1, x_wh2, x_wh3, x_wh4, x_wh5, o_add, o_sub, o_neg, o_lt, o_le, o_gt, o_ge, o_eq, o_ne, o_eqB, o_neB, o_int, o_abs, o_max, o_min, o_lenL, o_lenT, o_ix0, o_ix1, o_ixl0, o_ixl1, o_ixl2, o_isi, o_isi2, o_isN, o_notN, o_isB, o_notB, x_A0, x_F0, x_I0, x_A1, x_F1, x_I1, x_A2, x_F2, x_I2, x_A3, x_F3, x_I3, x_A4, x_F4, x_I4, x_A5, x_F5, x_I5, x_A6, x_F6, x_I6, x_A7, x_F7, x_I7, x_A8, x_F8, x_I8, x_wi0, x_wi, x_re0, x_re, x_re1, x_ok0, x_ok, x_ok1, x_ok2, o_not0, x_g0, x_gS, x_s0, x_sS, x_bs, x_bn, x_ms, x_isNnone, x_isNbool, x_isNint, x_isNstr, x_isNlist, x_isNtuple, x_isNdict, x_tyintnone, x_tyintbool, x_tyintint, x_tyintstr, x_tyintlist, x_tyinttuple, x_tyintdict, x_tyboolnone, x_tyboolbool, x_tyboolint, x_tyboolstr, x_tyboollist, x_tybooltuple, x_tybooldict, x_tystrnone, x_tystrbool, x_tystrint, x_tystrstr, x_tystrlist, x_tystrtuple, x_tystrdict, x_tytupnone, x_tytupbool, x_tytupint, x_tytupstr, x_tytuplist, x_tytuptuple, x_tytupdict, x_tylstnone, x_tylstbool, x_tylstint, x_tylststr, x_tylstlist, x_tylsttuple, x_tylstdict, x_tydctnone, x_tydctbool, x_tydctint, x_tydctstr, x_tydctlist, x_tydcttuple, x_tydctdict, x_be0, x_bn0, x_be1, x_bn1, x_be2, x_bn2, x_be3, x_bn3, List.length_cons, List.length_nil, List.map_cons, List.map_nil, List.replicate, List.cons_append, List.nil_append, List.append_nil, startE, pick, List.filterMap_cons, List.filterMap_nil, Bool.or_false, Bool.false_or, Bool.or_true, Bool.true_or, Bool.and_true, Bool.true_and, Bool.and_false, Bool.false_and, Bool.not_true, Bool.not_false, Bool.not_not, decide_true, decide_false, Int.cast_ofNat_Int, Nat.reduceAdd, Nat.zero_add, Int.reduceEq, Int.reduceLT, Int.reduceLE, Int.reduceGT, Int.reduceGE, Int.reduceAdd, Int.reduceSub, Int.reduceMul, Int.reduceNeg, Int.reducePow, Int.reduceToNat]
  · have : ¬ s = 0 := by omega
    simp only [this, z1, z2, x_seq, x_seq1, x_seq2, x_seq3, x_seq4, x_seq5, x_asg, x_asg1, x_asgF, x_asgF1, x_exp, x_exp1, x_ret, x_ret1, x_retF, x_retF1, x_retN, x_skip, x_brk, x_cnt, x_if, x_if1, x_if2, x_and, x_and1, x_and2, x_or, x_or1, x_or2, x_not, x_not1, x_bool, x_bool1, x_andV, x_andV1, x_andV2, x_orV, x_orV1, x_orV2, x_notV, x_notV1, x_ifV, x_ifV1, x_ifV2, x_cE, x_nm, x_nm1, x_nm2, x_rd, x_rd1, x_rd2, x_rd3, x_ev0, x_ev, x_ev1, x_ev2, x_pk, x_pk1, x_pk2, x_pk3, x_vv0, x_vv, x_vv1, x_op, x_op1, x_op2, x_ca, x_ck, x_ci, x_ci0, x_ci1, x_ci2, x_ci3, x_ci4, x_ci5, x_tup, x_tup1, x_lst, x_lst1, x_ch, x_ch1, x_ch2, x_ch3, x_ch4, x_ch5, x_asgT, x_asgT1, x_nx, x_par, x_par1, x_par2, x_par3, x_par31, x_par32, x_par33, x_tn, x_t0, x_tc, x_ts, x_ts0, x_ts1, x_up1, x_up2, x_upO, x_upI, x_app, x_app0, x_app1, x_for, x_for1, x_fl1, x_fl2, x_fl3, x_fl4, x_fl5, x_fl6, x_turn, x_its, x_its1, x_its2, x_its3, x_rg1, x_rg2, x_rg21, x_en, x_en1, x_zp, x_zp1, x_zp2, x_zp3, x_st, x_st0, x_st1, x_st2, x_st3, x_yes, x_lc2, x_rA1, x_rA2, x_rF1, x_rI1, x_rI2, x_wh1, x_wh2, x_wh3, x_wh4, x_wh5, o_add, o_sub, o_neg, o_lt, o_le, o_gt, o_ge, o_eq, o_ne, o_eqB, o_neB, o_int, o_abs, o_max, o_min, o_lenL, o_lenT, o_ix0, o_ix1, o_ixl0, o_ixl1, o_ixl2, o_isi, o_isi2, o_isN, o_notN, o_isB, o_notB, x_A0, x_F0, x_I0, x_A1, x_F1, x_I1, x_A2, x_F2, x_I2, x_A3, x_F3, x_I3, x_A4, x_F4, x_I4, x_A5, x_F5, x_I5, x_A6, x_F6, x_I6, x_A7, x_F7, x_I7, x_A8, x_F8, x_I8, x_wi0, x_wi, x_re0, x_re, x_re1, x_ok0, x_ok, x_ok1, x_ok2, o_not0, x_g0, x_gS, x_s0, x_sS, x_bs, x_bn, x_ms, x_isNnone, x_isNbool, x_isNint, x_isNstr, x_isNlist, x_isNtuple, x_isNdict, x_tyintnone, x_tyintbool, x_tyintint, x_tyintstr, x_tyintlist, x_tyinttuple, x_tyintdict, x_tyboolnone, x_tyboolbool, x_tyboolint, x_tyboolstr, x_tyboollist, x_tybooltuple, x_tybooldict, x_tystrnone, x_tystrbool, x_tystrint, x_tystrstr, x_tystrlist, x_tystrtuple, x_tystrdict, x_tytupnone, x_tytupbool, x_tytupint, x_tytupstr, x_tytuplist, x_tytuptuple, x_tytupdict, x_tylstnone, x_tylstbool, x_tylstint, x_tylststr, x_tylstlist, x_tylsttuple, x_tylstdict, x_tydctnone, x_tydctbool, x_tydctint, x_tydctstr, x_tydctlist, x_tydcttuple, x_tydctdict, x_be0, x_bn0, x_be1, x_bn1, x_be2, x_bn2, x_be3, x_bn3, List.length_cons, List.length_nil, List.map_cons, List.map_nil, List.replicate, List.cons_append, List.nil_append, List.append_nil, startE, pick, List.filterMap_cons, List.filterMap_nil, Bool.or_false, Bool.false_or, Bool.or_true, Bool.true_or, Bool.and_true, Bool.true_and, Bool.and_false, Bool.false_and, Bool.not_true, Bool.not_false, Bool.not_not, decide_true, decide_false, Int.cast_ofNat_Int, Nat.reduceAdd, Nat.zero_add, Int.reduceEq, Int.reduceLT, Int.reduceLE, Int.reduceGT, Int.reduceGE, Int.reduceAdd, Int.reduceSub, Int.reduceMul, Int.reduceNeg, Int.reducePow, Int.reduceToNat]
theorem e_check_rest {f s : Int} (h : Can f s) : sem_check_rest [.tuple [.int f, .int s]] = some .none := by
  rw [sem_check_rest, g_check_rest]
  simp only [e_is_rest h, x_seq, x_seq1, x_seq2, x_seq3, x_seq4, x_seq5, x_asg, x_asg1, x_asgF, x_asgF1, x_exp, x_exp1, x_ret, x_ret1, x_retF, x_retF1, x_retN, x_skip, x_brk, x_cnt, x_if, x_if1, x_if2, x_and, x_and1, x_and2, x_or, x_or1, x_or2, x_not, x_not1, x_bool, x_bool1, x_andV, x_andV1, x_andV2, x_orV, x_orV1, x_orV2, x_notV, x_notV1, x_ifV, x_ifV1, x_ifV2, x_cE, x_nm, x_nm1, x_nm2, x_rd, x_rd1, x_rd2, x_rd3, x_ev0, x_ev, x_ev1, x_ev2, x_pk, x_pk1, x_pk2, x_pk3, x_vv0, x_vv, x_vv1, x_op, x_op1, x_op2, x_ca, x_ck, x_ci, x_ci0, x_ci1, x_ci2, x_ci3, x_ci4, x_ci5, x_tup, x_tup1, x_lst, x_lst1, x_ch, x_ch1, x_ch2, x_ch3, x_ch4, x_ch5, x_asgT, x_asgT1, x_nx, x_par, x_par1, x_par2, x_par3, x_par31, x_par32, x_par33, x_tn, x_t0, x_tc, x_ts, x_ts0, x_ts1, x_up1, x_up2, x_upO, x_upI, x_app, x_app0, x_app1, x_for, x_for1, x_fl1, x_fl2, x_fl3, x_fl4, x_fl5, x_fl6, x_turn, x_its, x_its1, x_its2, x_its3, x_rg1, x_rg2, x_rg21, x_en, x_en1, x_zp, x_zp1, x_zp2, x_zp3, x_st, x_st0, x_st1, x_st2, x_st3, x_yes, x_lc2, x_rA1, x_rA2, x_rF1, x_rI1, x_rI2, x_wh1, x_wh2, x_wh3, x_wh4, x_wh5, o_add, o_sub, o_neg, o_lt, o_le, o_gt, o_ge, o_eq, o_ne, o_eqB, o_neB, o_int, o_abs, o_max, o_min, o_lenL, o_lenT, o_ix0, o_ix1, o_ixl0, o_ixl1, o_ixl2, o_isi, o_isi2, o_isN, o_notN, o_isB, o_notB, x_A0, x_F0, x_I0, x_A1, x_F1, x_I1, x_A2, x_F2, x_I2, x_A3, x_F3, x_I3, x_A4, x_F4, x_I4, x_A5, x_F5, x_I5, x_A6, x_F6, x_I6, x_A7, x_F7, x_I7, x_A8, x_F8, x_I8, x_wi0, x_wi, x_re0, x_re, x_re1, x_ok0, x_ok, x_ok1, x_ok2, o_not0, x_g0, x_gS, x_s0, x_sS, x_bs, x_bn, x_ms, x_isNnone, x_isNbool, x_isNint, x_isNstr, x_isNlist, x_isNtuple, x_isNdict, x_tyintnone, x_tyintbool, x_tyintint, x_tyintstr, x_tyintlist, x_tyinttuple, x_tyintdict, x_tyboolnone, x_tyboolbool, x_tyboolint, x_tyboolstr, x_tyboollist, x_tybooltuple, x_tybooldict, x_tystrnone, x_tystrbool, x_tystrint, x_tystrstr, x_tystrlist, x_tystrtuple, x_tystrdict, x_tytupnone, x_tytupbool, x_tytupint, x_tytupstr, x_tytuplist, x_tytuptuple, x_tytupdict, x_tylstnone, x_tylstbool, x_tylstint, x_tylststr, x_tylstlist, x_tylsttuple, x_tylstdict, x_tydctnone, x_tydctbool, x_tydctint, x_tydctstr, x_tydctlist, x_tydcttuple, x_tydctdict, x_be0, x_bn0, x_be1, x_bn1, x_be2, x_bn2, x_be3, x_bn3, List.length_cons, List.length_nil, List.map_cons, List.map_nil, List.replicate, List.cons_append, List.nil_append, List.append_nil, startE, pick, List.filterMap_cons, List.filterMap_nil, Bool.or_false, Bool.false_or, Bool.or_true, Bool.true_or, Bool.and_true, Bool.true_and, Bool.and_false, Bool.false_and, Bool.not_true, Bool.not_false, Bool.not_not, decide_true, decide_false, Int.cast_ofNat_Int, Nat.reduceAdd, Nat.zero_add, Int.reduceEq, Int.reduceLT, Int.reduceLE, Int.reduceGT, Int.reduceGE, Int.reduceAdd, Int.reduceSub, Int.reduceMul, Int.reduceNeg, Int.reducePow, Int.reduceToNat]
theorem e_check_two {f s g t : Int} (h : Can f s) (h' : Can g t) : sem_check_two_rests [.tuple [.int f, .int s], .tuple [.int g, .int t]] = some .none := by
  rw [sem_check_two_rests, g_check_two_rests]
  simp only [e_check_rest h, e_check_rest h', x_seq, x_seq1, x_seq2, x_seq3, x_seq4, x_seq5, x_asg, x_asg1, x_asgF, x_asgF1, x_exp, x_exp1, x_ret, x_ret1, x_retF, x_retF1, x_retN, x_skip, x_brk, x_cnt, x_if, x_if1, x_if2, x_and, x_and1, x_and2, x_or, x_or1, x_or2, x_not, x_not1, x_bool, x_bool1, x_andV, x_andV1, x_andV2, x_orV, x_orV1, x_orV2, x_notV, x_notV1, x_ifV, x_ifV1, x_ifV2, x_cE, x_nm, x_nm1, x_nm2, x_rd, x_rd1, x_rd2, x_rd3, x_ev0, x_ev, x_ev1, x_ev2, x_pk, x_pk1, x_pk2, x_pk3, x_vv0, x_vv, x_vv1, x_op, x_op1, x_op2, x_ca, x_ck, x_ci, x_ci0, x_ci1, x_ci2, x_ci3, x_ci4, x_ci5, x_tup, x_tup1, x_lst, x_lst1, x_ch, x_ch1, x_ch2, x_ch3, x_ch4, x_ch5, x_asgT, x_asgT1, x_nx, x_par, x_par1, x_par2, x_par3, x_par31, x_par32, x_par33, x_tn, x_t0, x_tc, x_ts, x_ts0, x_ts1, x_up1, x_up2, x_upO, x_upI, x_app, x_app0, x_app1, x_for, x_for1, x_fl1, x_fl2, x_fl3, x_fl4, x_fl5, x_fl6, x_turn, x_its, x_its1, x_its2, x_its3, x_rg1, x_rg2, x_rg21, x_en, x_en1, x_zp, x_zp1, x_zp2, x_zp3, x_st, x_st0, x_st1, x_st2, x_st3, x_yes, x_lc2, x_rA1, x_rA2, x_rF1, x_rI1, x_rI2, x_wh1, x_wh2, x_wh3, x_wh4, x_wh5, o_add, o_sub, o_neg, o_lt, o_le, o_gt, o_ge, o_eq, o_ne, o_eqB, o_neB, o_int, o_abs, o_max, o_min, o_lenL, o_lenT, o_ix0, o_ix1, o_ixl0, o_ixl1, o_ixl2, o_isi, o_isi2, o_isN, o_notN, o_isB, o_notB, x_A0, x_F0, x_I0, x_A1, x_F1, x_I1, x_A2, x_F2, x_I2, x_A3, x_F3, x_I3, x_A4, x_F4, x_I4, x_A5, x_F5, x_I5, x_A6, x_F6, x_I6, x_A7, x_F7, x_I7, x_A8, x_F8, x_I8, x_wi0, x_wi, x_re0, x_re, x_re1, x_ok0, x_ok, x_ok1, x_ok2, o_not0, x_g0, x_gS, x_s0, x_sS, x_bs, x_bn, x_ms, x_isNnone, x_isNbool, x_isNint, x_isNstr, x_isNlist, x_isNtuple, x_isNdict, x_tyintnone, x_tyintbool, x_tyintint, x_tyintstr, x_tyintlist, x_tyinttuple, x_tyintdict, x_tyboolnone, x_tyboolbool, x_tyboolint, x_tyboolstr, x_tyboollist, x_tybooltuple, x_tybooldict, x_tystrnone, x_tystrbool, x_tystrint, x_tystrstr, x_tystrlist, x_tystrtuple, x_tystrdict, x_tytupnone, x_tytupbool, x_tytupint, x_tytupstr, x_tytuplist, x_tytuptuple, x_tytupdict, x_tylstnone, x_tylstbool, x_tylstint, x_tylststr, x_tylstlist, x_tylsttuple, x_tylstdict, x_tydctnone, x_tydctbool, x_tydctint, x_tydctstr, x_tydctlist, x_tydcttuple, x_tydctdict, x_be0, x_bn0, x_be1, x_bn1, x_be2, x_bn2, x_be3, x_bn3, List.length_cons, List.length_nil, List.map_cons, List.map_nil, List.replicate, List.cons_append, List.nil_append, List.append_nil, startE, pick, List.filterMap_cons, List.filterMap_nil, Bool.or_false, Bool.false_or, Bool.or_true, Bool.true_or, Bool.and_true, Bool.true_and, Bool.and_false, Bool.false_and, Bool.not_true, Bool.not_false, Bool.not_not, decide_true, decide_false, Int.cast_ofNat_Int, Nat.reduceAdd, Nat.zero_add, Int.reduceEq, Int.reduceLT, Int.reduceLE, Int.reduceGT, Int.reduceGE, Int.reduceAdd, Int.reduceSub, Int.reduceMul, Int.reduceNeg, Int.reducePow, Int.reduceToNat]
theorem e_check_number {f s : Int} (h : Can f s) (n : Int) : sem_check_rest_number [.tuple [.int f, .int s], .int n] = some .none := by
  rw [sem_check_rest_number, g_check_rest_number]
  simp only [e_check_rest h, e_is_whole, x_seq, x_seq1, x_seq2, x_seq3, x_seq4, x_seq5, x_asg, x_asg1, x_asgF, x_asgF1, x_exp, x_exp1, x_ret, x_ret1, x_retF, x_retF1, x_retN, x_skip, x_brk, x_cnt, x_if, x_if1, x_if2, x_and, x_and1, x_and2, x_or, x_or1, x_or2, x_not, x_not1, x_bool, x_bool1, x_andV, x_andV1, x_andV2, x_orV, x_orV1, x_orV2, x_notV, x_notV1, x_ifV, x_ifV1, x_ifV2, x_cE, x_nm, x_nm1, x_nm2, x_rd, x_rd1, x_rd2, x_rd3, x_ev0, x_ev, x_ev1, x_ev2, x_pk, x_pk1, x_pk2, x_pk3, x_vv0, x_vv, x_vv1, x_op, x_op1, x_op2, x_ca, x_ck, x_ci, x_ci0, x_ci1, x_ci2, x_ci3, x_ci4, x_ci5, x_tup, x_tup1, x_lst, x_lst1, x_ch, x_ch1, x_ch2, x_ch3, x_ch4, x_ch5, x_asgT, x_asgT1, x_nx, x_par, x_par1, x_par2, x_par3, x_par31, x_par32, x_par33, x_tn, x_t0, x_tc, x_ts, x_ts0, x_ts1, x_up1, x_up2, x_upO, x_upI, x_app, x_app0, x_app1, x_for, x_for1, x_fl1, x_fl2, x_fl3, x_fl4, x_fl5, x_fl6, x_turn, x_its, x_its1, x_its2, x_its3, x_rg1, x_rg2, x_rg21, x_en, x_en1, x_zp, x_zp1, x_zp2, x_zp3, x_st, x_st0, x_st1, x_st2, x_st3, x_yes, x_lc2, x_rA1, x_rA2, x_rF1, x_rI1, x_rI2, x_wh1, x_wh2, x_wh3, x_wh4, x_wh5, o_add, o_sub, o_neg, o_lt, o_le, o_gt, o_ge, o_eq, o_ne, o_eqB, o_neB, o_int, o_abs, o_max, o_min, o_lenL, o_lenT, o_ix0, o_ix1, o_ixl0, o_ixl1, o_ixl2, o_isi, o_isi2, o_isN, o_notN, o_isB, o_notB, x_A0, x_F0, x_I0, x_A1, x_F1, x_I1, x_A2, x_F2, x_I2, x_A3, x_F3, x_I3, x_A4, x_F4, x_I4, x_A5, x_F5, x_I5, x_A6, x_F6, x_I6, x_A7, x_F7, x_I7, x_A8, x_F8, x_I8, x_wi0, x_wi, x_re0, x_re, x_re1, x_ok0, x_ok, x_ok1, x_ok2, o_not0, x_g0, x_gS, x_s0, x_sS, x_bs, x_bn, x_ms, x_isNnone, x_isNbool, x_isNint, x_isNstr, x_isNlist, x_isNtuple, x_isNdict, x_tyintnone, x_tyintbool, x_tyintint, x_tyintstr, x_tyintlist, x_tyinttuple, x_tyintdict, x_tyboolnone, x_tyboolbool, x_tyboolint, x_tyboolstr, x_tyboollist, x_tybooltuple, x_tybooldict, x_tystrnone, x_tystrbool, x_tystrint, x_tystrstr, x_tystrlist, x_tystrtuple, x_tystrdict, x_tytupnone, x_tytupbool, x_tytupint, x_tytupstr, x_tytuplist, x_tytuptuple, x_tytupdict, x_tylstnone, x_tylstbool, x_tylstint, x_tylststr, x_tylstlist, x_tylsttuple, x_tylstdict, x_tydctnone, x_tydctbool, x_tydctint, x_tydctstr, x_tydctlist, x_tydcttuple, x_tydctdict, x_be0, x_bn0, x_be1, x_bn1, x_be2, x_bn2, x_be3, x_bn3, List.length_cons, List.length_nil, List.map_cons, List.map_nil, List.replicate, List.cons_append, List.nil_append, List.append_nil, startE, pick, List.filterMap_cons, List.filterMap_nil, Bool.or_false, Bool.false_or, Bool.or_true, Bool.true_or, Bool.and_true, Bool.true_and, Bool.and_false, Bool.false_and, Bool.not_true, Bool.not_false, Bool.not_not, decide_true, decide_false, Int.cast_ofNat_Int, Nat.reduceAdd, Nat.zero_add, Int.reduceEq, Int.reduceLT, Int.reduceLE, Int.reduceGT, Int.reduceGE, Int.reduceAdd, Int.reduceSub, Int.reduceMul, Int.reduceNeg, Int.reducePow, Int.reduceToNat]
theorem w_common : ∀ (n : Nat) (a b : Int), b.toNat ≤ n → 0 ≤ a → 0 ≤ b → whileM wc_common_step_1 wb_common_step_2 [.sh (.int a), .sh (.int b)] = some (.nx [.sh (.int (gc a b)), .sh (.int 0)]) := by
  intro n
  induction n with
  | zero =>
    intro a b hb ha hb0
    obtain rfl : b = 0 := by omega
    rw [x_wh, wc_common_step_1]
    simp only [x_seq, x_seq1, x_seq2, x_seq3, x_seq4, x_seq5, x_asg, x_asg1, x_asgF, x_asgF1, x_exp, x_exp1, x_ret, x_ret1, x_retF, x_retF1, x_retN, x_skip, x_brk, x_cnt, x_if, x_if1, x_if2, x_and, x_and1, x_and2, x_or, x_or1, x_or2, x_not, x_not1, x_bool, x_bool1, x_andV, x_andV1, x_andV2, x_orV, x_orV1, x_orV2, x_notV, x_notV1, x_ifV, x_ifV1, x_ifV2, x_cE, x_nm, x_nm1, x_nm2, x_rd, x_rd1, x_rd2, x_rd3, x_ev0, x_ev, x_ev1, x_ev2, x_pk, x_pk1, x_pk2, x_pk3, x_vv0, x_vv, x_vv1, x_op, x_op1, x_op2, x_ca, x_ck, x_ci, x_ci0, x_ci1, x_ci2, x_ci3, x_ci4, x_ci5, x_tup, x_tup1, x_lst, x_lst1, x_ch, x_ch1, x_ch2, x_ch3, x_ch4, x_ch5, x_asgT, x_asgT1, x_nx, x_par, x_par1, x_par2, x_par3, x_par31, x_par32, x_par33, x_tn, x_t0, x_tc, x_ts, x_ts0, x_ts1, x_up1, x_up2, x_upO, x_upI, x_app, x_app0, x_app1, x_for, x_for1, x_fl1, x_fl2, x_fl3, x_fl4, x_fl5, x_fl6, x_turn, x_its, x_its1, x_its2, x_its3, x_rg1, x_rg2, x_rg21, x_en, x_en1, x_zp, x_zp1, x_zp2, x_zp3, x_st, x_st0, x_st1, x_st2, x_st3, x_yes, x_lc2, x_rA1, x_rA2, x_rF1, x_rI1, x_rI2, x_wh1, x_wh2, x_wh3, x_wh4, x_wh5, o_add, o_sub, o_neg, o_lt, o_le, o_gt, o_ge, o_eq, o_ne, o_eqB, o_neB, o_int, o_abs, o_max, o_min, o_lenL, o_lenT, o_ix0, o_ix1, o_ixl0, o_ixl1, o_ixl2, o_isi, o_isi2, o_isN, o_notN, o_isB, o_notB, x_A0, x_F0, x_I0, x_A1, x_F1, x_I1, x_A2, x_F2, x_I2, x_A3, x_F3, x_I3, x_A4, x_F4, x_I4, x_A5, x_F5, x_I5, x_A6, x_F6, x_I6, x_A7, x_F7, x_I7, x_A8, x_F8, x_I8, x_wi0, x_wi, x_re0, x_re, x_re1, x_ok0, x_ok, x_ok1, x_ok2, o_not0, x_g0, x_gS, x_s0, x_sS, x_bs, x_bn, x_ms, x_isNnone, x_isNbool, x_isNint, x_isNstr, x_isNlist, x_isNtuple, x_isNdict, x_tyintnone, x_tyintbool, x_tyintint, x_tyintstr, x_tyintlist, x_tyinttuple, x_tyintdict, x_tyboolnone, x_tyboolbool, x_tyboolint, x_tyboolstr, x_tyboollist, x_tybooltuple, x_tybooldict, x_tystrnone, x_tystrbool, x_tystrint, x_tystrstr, x_tystrlist, x_tystrtuple, x_tystrdict, x_tytupnone, x_tytupbool, x_tytupint, x_tytupstr, x_tytuplist, x_tytuptuple, x_tytupdict, x_tylstnone, x_tylstbool, x_tylstint, x_tylststr, x_tylstlist, x_tylsttuple, x_tylstdict, x_tydctnone, x_tydctbool, x_tydctint, x_tydctstr, x_tydctlist, x_tydcttuple, x_tydctdict, x_be0, x_bn0, x_be1, x_bn1, x_be2, x_bn2, x_be3, x_bn3, List.length_cons, List.length_nil, List.map_cons, List.map_nil, List.replicate, List.cons_append, List.nil_append, List.append_nil, startE, pick, List.filterMap_cons, List.filterMap_nil, Bool.or_false, Bool.false_or, Bool.or_true, Bool.true_or, Bool.and_true, Bool.true_and, Bool.and_false, Bool.false_and, Bool.not_true, Bool.not_false, Bool.not_not, decide_true, decide_false, Int.cast_ofNat_Int, Nat.reduceAdd, Nat.zero_add, Int.reduceEq, Int.reduceLT, Int.reduceLE, Int.reduceGT, Int.reduceGE, Int.reduceAdd, Int.reduceSub, Int.reduceMul, Int.reduceNeg, Int.reducePow, Int.reduceToNat]
    rw [gc_zero ha]
  | succ n ih =>
    intro a b hb ha hb0
    by_cases e : b = 0
    · subst e
      rw [x_wh, wc_common_step_1]
      simp only [x_seq, x_seq1, x_seq2, x_seq3, x_seq4, x_seq5, x_asg, x_asg1, x_asgF, x_asgF1, x_exp, x_exp1, x_ret, x_ret1, x_retF, x_retF1, x_retN, x_skip, x_brk, x_cnt, x_if, x_if1, x_if2, x_and, x_and1, x_and2, x_or, x_or1, x_or2, x_not, x_not1, x_bool, x_bool1, x_andV, x_andV1, x_andV2, x_orV, x_orV1, x_orV2, x_notV, x_notV1, x_ifV, x_ifV1, x_ifV2, x_cE, x_nm, x_nm1, x_nm2, x_rd, x_rd1, x_rd2, x_rd3, x_ev0, x_ev, x_ev1, x_ev2, x_pk, x_pk1, x_pk2, x_pk3, x_vv0, x_vv, x_vv1, x_op, x_op1, x_op2, x_ca, x_ck, x_ci, x_ci0, x_ci1, x_ci2, x_ci3, x_ci4, x_ci5, x_tup, x_tup1, x_lst, x_lst1, x_ch, x_ch1, x_ch2, x_ch3, x_ch4, x_ch5, x_asgT, x_asgT1, x_nx, x_par, x_par1, x_par2, x_par3, x_par31, x_par32, x_par33, x_tn, x_t0, x_tc, x_ts, x_ts0, x_ts1, x_up1, x_up2, x_upO, x_upI, x_app, x_app0, x_app1, x_for, x_for1, x_fl1, x_fl2, x_fl3, x_fl4, x_fl5, x_fl6, x_turn, x_its, x_its1, x_its2, x_its3, x_rg1, x_rg2, x_rg21, x_en, x_en1, x_zp, x_zp1, x_zp2, x_zp3, x_st, x_st0, x_st1, x_st2, x_st3, x_yes, x_lc2, x_rA1, x_rA2, x_rF1, x_rI1, x_rI2, x_wh1, x_wh2, x_wh3, x_wh4, x_wh5, o_add, o_sub, o_neg, o_lt, o_le, o_gt, o_ge, o_eq, o_ne, o_eqB, o_neB, o_int, o_abs, o_max, o_min, o_lenL, o_lenT, o_ix0, o_ix1, o_ixl0, o_ixl1, o_ixl2, o_isi, o_isi2, o_isN, o_notN, o_isB, o_notB, x_A0, x_F0, x_I0, x_A1, x_F1, x_I1, x_A2, x_F2, x_I2, x_A3, x_F3, x_I3, x_A4, x_F4, x_I4, x_A5, x_F5, x_I5, x_A6, x_F6, x_I6, x_A7, x_F7, x_I7, x_A8, x_F8, x_I8, x_wi0, x_wi, x_re0, x_re, x_re1, x_ok0, x_ok, x_ok1, x_ok2, o_not0, x_g0, x_gS, x_s0, x_sS, x_bs, x_bn, x_ms, x_isNnone, x_isNbool, x_isNint, x_isNstr, x_isNlist, x_isNtuple, x_isNdict, x_tyintnone, x_tyintbool, x_tyintint, x_tyintstr, x_tyintlist, x_tyinttuple, x_tyintdict, x_tyboolnone, x_tyboolbool, x_tyboolint, x_tyboolstr, x_tyboollist, x_tybooltuple, x_tybooldict, x_tystrnone, x_tystrbool, x_tystrint, x_tystrstr, x_tystrlist, x_tystrtuple, x_tystrdict, x_tytupnone, x_tytupbool, x_tytupint, x_tytupstr, x_tytuplist, x_tytuptuple, x_tytupdict, x_tylstnone, x_tylstbool, x_tylstint, x_tylststr, x_tylstlist, x_tylsttuple, x_tylstdict, x_tydctnone, x_tydctbool, x_tydctint, x_tydctstr, x_tydctlist, x_tydcttuple, x_tydctdict, x_be0, x_bn0, x_be1, x_bn1, x_be2, x_bn2, x_be3, x_bn3, List.length_cons, List.length_nil, List.map_cons, List.map_nil, List.replicate, List.cons_append, List.nil_append, List.append_nil, startE, pick, List.filterMap_cons, List.filterMap_nil, Bool.or_false, Bool.false_or, Bool.or_true, Bool.true_or, Bool.and_true, Bool.true_and, Bool.and_false, Bool.false_and, Bool.not_true, Bool.not_false, Bool.not_not, decide_true, decide_false, Int.cast_ofNat_Int, Nat.reduceAdd, Nat.zero_add, Int.reduceEq, Int.reduceLT, Int.reduceLE, Int.reduceGT, Int.reduceGE, Int.reduceAdd, Int.reduceSub, Int.reduceMul, Int.reduceNeg, Int.reducePow, Int.reduceToNat]
      rw [gc_zero ha]
    · have hp : 0 < b := by omega
      rw [x_wh, wc_common_step_1, wb_common_step_2]
      simp only [show (b > 0) = True from eq_true hp, o_mod hp, x_seq, x_seq1, x_seq2, x_seq3, x_seq4, x_seq5, x_asg, x_asg1, x_asgF, x_asgF1, x_exp, x_exp1, x_ret, x_ret1, x_retF, x_retF1, x_retN, x_skip, x_brk, x_cnt, x_if, x_if1, x_if2, x_and, x_and1, x_and2, x_or, x_or1, x_or2, x_not, x_not1, x_bool, x_bool1, x_andV, x_andV1, x_andV2, x_orV, x_orV1, x_orV2, x_notV, x_notV1, x_ifV, x_ifV1, x_ifV2, x_cE, x_nm, x_nm1, x_nm2, x_rd, x_rd1, x_rd2, x_rd3, x_ev0, x_ev, x_ev1, x_ev2, x_pk, x_pk1, x_pk2, x_pk3, x_vv0, x_vv, x_vv1, x_op, x_op1, x_op2, x_ca, x_ck, x_ci, x_ci0, x_ci1, x_ci2, x_ci3, x_ci4, x_ci5, x_tup, x_tup1, x_lst, x_lst1, x_ch, x_ch1, x_ch2, x_ch3, x_ch4, x_ch5, x_asgT, x_asgT1, x_nx, x_par, x_par1, x_par2, x_par3, x_par31, x_par32, x_par33, x_tn, x_t0, x_tc, x_ts, x_ts0, x_ts1, x_up1, x_up2, x_upO, x_upI, x_app, x_app0, x_app1, x_for, x_for1, x_fl1, x_fl2, x_fl3, x_fl4, x_fl5, x_fl6, x_turn, x_its, x_its1, x_its2, x_its3, x_rg1, x_rg2, x_rg21, x_en, x_en1, x_zp, x_zp1, x_zp2, x_zp3, x_st, x_st0, x_st1, x_st2, x_st3, x_yes, x_lc2, x_rA1, x_rA2, x_rF1, x_rI1, x_rI2, x_wh1, x_wh2, x_wh3, x_wh4, x_wh5, o_add, o_sub, o_neg, o_lt, o_le, o_gt, o_ge, o_eq, o_ne, o_eqB, o_neB, o_int, o_abs, o_max, o_min, o_lenL, o_lenT, o_ix0, o_ix1, o_ixl0, o_ixl1, o_ixl2, o_isi, o_isi2, o_isN, o_notN, o_isB, o_notB, x_A0, x_F0, x_I0, x_A1, x_F1, x_I1, x_A2, x_F2, x_I2, x_A3, x_F3, x_I3, x_A4, x_F4, x_I4, x_A5, x_F5, x_I5, x_A6, x_F6, x_I6, x_A7, x_F7, x_I7, x_A8, x_F8, x_I8, x_wi0, x_wi, x_re0, x_re, x_re1, x_ok0, x_ok, x_ok1, x_ok2, o_not0, x_g0, x_gS, x_s0, x_sS, x_bs, x_bn, x_ms, x_isNnone, x_isNbool, x_isNint, x_isNstr, x_isNlist, x_isNtuple, x_isNdict, x_tyintnone, x_tyintbool, x_tyintint, x_tyintstr, x_tyintlist, x_tyinttuple, x_tyintdict, x_tyboolnone, x_tyboolbool, x_tyboolint, x_tyboolstr, x_tyboollist, x_tybooltuple, x_tybooldict, x_tystrnone, x_tystrbool, x_tystrint, x_tystrstr, x_tystrlist, x_tystrtuple, x_tystrdict, x_tytupnone, x_tytupbool, x_tytupint, x_tytupstr, x_tytuplist, x_tytuptuple, x_tytupdict, x_tylstnone, x_tylstbool, x_tylstint, x_tylststr, x_tylstlist, x_tylsttuple, x_tylstdict, x_tydctnone, x_tydctbool, x_tydctint, x_tydctstr, x_tydctlist, x_tydcttuple, x_tydctdict, x_be0, x_bn0, x_be1, x_bn1, x_be2, x_bn2, x_be3, x_bn3, List.length_cons, List.length_nil, List.map_cons, List.map_nil, List.replicate, List.cons_append, List.nil_append, List.append_nil, startE, pick, List.filterMap_cons, List.filterMap_nil, Bool.or_false, Bool.false_or, Bool.or_true, Bool.true_or, Bool.and_true, Bool.true_and, Bool.and_false, Bool.false_and, Bool.not_true, Bool.not_false, Bool.not_not, decide_true, decide_false, Int.cast_ofNat_Int, Nat.reduceAdd, Nat.zero_add, Int.reduceEq, Int.reduceLT, Int.reduceLE, Int.reduceGT, Int.reduceGE, Int.reduceAdd, Int.reduceSub, Int.reduceMul, Int.reduceNeg, Int.reducePow, Int.reduceToNat]
      have h1 := Int.emod_nonneg a e
      have h2 := Int.emod_lt_of_pos a hp
      have := ih b (a % b) (by omega) hb0 h1
      rw [wc_common_step_1, wb_common_step_2] at this
      rw [this, gc_step]
theorem e_common {a b : Int} (ha : 0 ≤ a) (hb : 0 ≤ b) : sem_common_step [.int a, .int b] = some (.int (gc a b)) := by
  rw [sem_common_step, g_common_step]
  simp only [w_common _ a b (Nat.le_refl _) ha hb, x_seq, x_seq1, x_seq2, x_seq3, x_seq4, x_seq5, x_asg, x_asg1, x_asgF, x_asgF1, x_exp, x_exp1, x_ret, x_ret1, x_retF, x_retF1, x_retN, x_skip, x_brk, x_cnt, x_if, x_if1, x_if2, x_and, x_and1, x_and2, x_or, x_or1, x_or2, x_not, x_not1, x_bool, x_bool1, x_andV, x_andV1, x_andV2, x_orV, x_orV1, x_orV2, x_notV, x_notV1, x_ifV, x_ifV1, x_ifV2, x_cE, x_nm, x_nm1, x_nm2, x_rd, x_rd1, x_rd2, x_rd3, x_ev0, x_ev, x_ev1, x_ev2, x_pk, x_pk1, x_pk2, x_pk3, x_vv0, x_vv, x_vv1, x_op, x_op1, x_op2, x_ca, x_ck, x_ci, x_ci0, x_ci1, x_ci2, x_ci3, x_ci4, x_ci5, x_tup, x_tup1, x_lst, x_lst1, x_ch, x_ch1, x_ch2, x_ch3, x_ch4, x_ch5, x_asgT, x_asgT1, x_nx, x_par, x_par1, x_par2, x_par3, x_par31, x_par32, x_par33, x_tn, x_t0, x_tc, x_ts, x_ts0, x_ts1, x_up1, x_up2, x_upO, x_upI, x_app, x_app0, x_app1, x_for, x_for1, x_fl1, x_fl2, x_fl3, x_fl4, x_fl5, x_fl6, x_turn, x_its, x_its1, x_its2, x_its3, x_rg1, x_rg2, x_rg21, x_en, x_en1, x_zp, x_zp1, x_zp2, x_zp3, x_st, x_st0, x_st1, x_st2, x_st3, x_yes, x_lc2, x_rA1, x_rA2, x_rF1, x_rI1, x_rI2, x_wh1, x_wh2, x_wh3, x_wh4, x_wh5, o_add, o_sub, o_neg, o_lt, o_le, o_gt, o_ge, o_eq, o_ne, o_eqB, o_neB, o_int, o_abs, o_max, o_min, o_lenL, o_lenT, o_ix0, o_ix1, o_ixl0, o_ixl1, o_ixl2, o_isi, o_isi2, o_isN, o_notN, o_isB, o_notB, x_A0, x_F0, x_I0, x_A1, x_F1, x_I1, x_A2, x_F2, x_I2, x_A3, x_F3, x_I3, x_A4, x_F4, x_I4, x_A5, x_F5, x_I5, x_A6, x_F6, x_I6, x_A7, x_F7, x_I7, x_A8, x_F8, x_I8, x_wi0, x_wi, x_re0, x_re, x_re1, x_ok0, x_ok, x_ok1, x_ok2, o_not0, x_g0, x_gS, x_s0, x_sS, x_bs, x_bn, x_ms, x_isNnone, x_isNbool, x_isNint, x_isNstr, x_isNlist, x_isNtuple, x_isNdict, x_tyintnone, x_tyintbool, x_tyintint, x_tyintstr, x_tyintlist, x_tyinttuple, x_tyintdict, x_tyboolnone, x_tyboolbool, x_tyboolint, x_tyboolstr, x_tyboollist, x_tybooltuple, x_tybooldict, x_tystrnone, x_tystrbool, x_tystrint, x_tystrstr, x_tystrlist, x_tystrtuple, x_tystrdict, x_tytupnone, x_tytupbool, x_tytupint, x_tytupstr, x_tytuplist, x_tytuptuple, x_tytupdict, x_tylstnone, x_tylstbool, x_tylstint, x_tylststr, x_tylstlist, x_tylsttuple, x_tylstdict, x_tydctnone, x_tydctbool, x_tydctint, x_tydctstr, x_tydctlist, x_tydcttuple, x_tydctdict, x_be0, x_bn0, x_be1, x_bn1, x_be2, x_bn2, x_be3, x_bn3, List.length_cons, List.length_nil, List.map_cons, List.map_nil, List.replicate, List.cons_append, List.nil_append, List.append_nil, startE, pick, List.filterMap_cons, List.filterMap_nil, Bool.or_false, Bool.false_or, Bool.or_true, Bool.true_or, Bool.and_true, Bool.true_and, Bool.and_false, Bool.false_and, Bool.not_true, Bool.not_false, Bool.not_not, decide_true, decide_false, Int.cast_ofNat_Int, Nat.reduceAdd, Nat.zero_add, Int.reduceEq, Int.reduceLT, Int.reduceLE, Int.reduceGT, Int.reduceGE, Int.reduceAdd, Int.reduceSub, Int.reduceMul, Int.reduceNeg, Int.reducePow, Int.reduceToNat]
theorem e_rest_from (f : Int) {s : Int} (h : 0 ≤ s) : sem_rest_from [.int f, .int s] = some (eR (fr f s)) := by
  rw [sem_rest_from, g_rest_from]
  by_cases e : s = 0
  · subst e
    simp only [x_seq, x_seq1, x_seq2, x_seq3, x_seq4, x_seq5, x_asg, x_asg1, x_asgF, x_asgF1, x_exp, x_exp1, x_ret, x_ret1, x_retF, x_retF1, x_retN, x_skip, x_brk, x_cnt, x_if, x_if1, x_if2, x_and, x_and1, x_and2, x_or, x_or1, x_or2, x_not, x_not1, x_bool, x_bool1, x_andV, x_andV1, x_andV2, x_orV, x_orV1, x_orV2, x_notV, x_notV1, x_ifV, x_ifV1, x_ifV2, x_cE, x_nm, x_nm1, x_nm2, x_rd, x_rd1, x_rd2, x_rd3, x_ev0, x_ev, x_ev1, x_ev2, x_pk, x_pk1, x_pk2, x_pk3, x_vv0, x_vv, x_vv1, x_op, x_op1, x_op2, x_ca, x_ck, x_ci, x_ci0, x_ci1, x_ci2, x_ci3, x_ci4, x_ci5, x_tup, x_tup1, x_lst, x_lst1, x_ch, x_ch1, x_ch2, x_ch3, x_ch4, x_ch5, x_asgT, x_asgT1, x_nx, x_par, x_par1, x_par2, x_par3, x_par31, x_par32, x_par33, x_tn, x_t0, x_tc, x_ts, x_ts0, x_ts1, x_up1, x_up2, x_upO, x_upI, x_app, x_app0, x_app1, x_for, x_for1, x_fl1, x_fl2, x_fl3, x_fl4, x_fl5, x_fl6, x_turn, x_its, x_its1, x_its2, x_its3, x_rg1, x_rg2, x_rg21, x_en, x_en1, x_zp, x_zp1, x_zp2, x_zp3, x_st, x_st0, x_st1, x_st2, x_st3, x_yes, x_lc2, x_rA1, x_rA2, x_rF1, x_rI1, x_rI2, x_wh1, x_wh2, x_wh3, x_wh4, x_wh5, o_add, o_sub, o_neg, o_lt, o_le, o_gt, o_ge, o_eq, o_ne, o_eqB, o_neB, o_int, o_abs, o_max, o_min, o_lenL, o_lenT, o_ix0, o_ix1, o_ixl0, o_ixl1, o_ixl2, o_isi, o_isi2, o_isN, o_notN, o_isB, o_notB, x_A0, x_F0, x_I0, x_A1, x_F1, x_I1, x_A2, x_F2, x_I2, x_A3, x_F3, x_I3, x_A4, x_F4, x_I4, x_A5, x_F5, x_I5, x_A6, x_F6, x_I6, x_A7, x_F7, x_I7, x_A8, x_F8, x_I8, x_wi0, x_wi, x_re0, x_re, x_re1, x_ok0, x_ok, x_ok1, x_ok2, o_not0, x_g0, x_gS, x_s0, x_sS, x_bs, x_bn, x_ms, x_isNnone, x_isNbool, x_isNint, x_isNstr, x_isNlist, x_isNtuple, x_isNdict, x_tyintnone, x_tyintbool, x_tyintint, x_tyintstr, x_tyintlist, x_tyinttuple, x_tyintdict, x_tyboolnone, x_tyboolbool, x_tyboolint, x_tyboolstr, x_tyboollist, x_tybooltuple, x_tybooldict, x_tystrnone, x_tystrbool, x_tystrint, x_tystrstr, x_tystrlist, x_tystrtuple, x_tystrdict, x_tytupnone, x_tytupbool, x_tytupint, x_tytupstr, x_tytuplist, x_tytuptuple, x_tytupdict, x_tylstnone, x_tylstbool, x_tylstint, x_tylststr, x_tylstlist, x_tylsttuple, x_tylstdict, x_tydctnone, x_tydctbool, x_tydctint, x_tydctstr, x_tydctlist, x_tydcttuple, x_tydctdict, x_be0, x_bn0, x_be1, x_bn1, x_be2, x_bn2, x_be3, x_bn3, List.length_cons, List.length_nil, List.map_cons, List.map_nil, List.replicate, List.cons_append, List.nil_append, List.append_nil, startE, pick, List.filterMap_cons, List.filterMap_nil, Bool.or_false, Bool.false_or, Bool.or_true, Bool.true_or, Bool.and_true, Bool.true_and, Bool.and_false, Bool.false_and, Bool.not_true, Bool.not_false, Bool.not_not, decide_true, decide_false, Int.cast_ofNat_Int, Nat.reduceAdd, Nat.zero_add, Int.reduceEq, Int.reduceLT, Int.reduceLE, Int.reduceGT, Int.reduceGE, Int.reduceAdd, Int.reduceSub, Int.reduceMul, Int.reduceNeg, Int.reducePow, Int.reduceToNat]
    rw [fr_zero]
  · have hp : 0 < s := by omega
    simp only [e, o_mod hp, x_seq, x_seq1, x_seq2, x_seq3, x_seq4, x_seq5, x_asg, x_asg1, x_asgF, x_asgF1, x_exp, x_exp1, x_ret, x_ret1, x_retF, x_retF1, x_retN, x_skip, x_brk, x_cnt, x_if, x_if1, x_if2, x_and, x_and1, x_and2, x_or, x_or1, x_or2, x_not, x_not1, x_bool, x_bool1, x_andV, x_andV1, x_andV2, x_orV, x_orV1, x_orV2, x_notV, x_notV1, x_ifV, x_ifV1, x_ifV2, x_cE, x_nm, x_nm1, x_nm2, x_rd, x_rd1, x_rd2, x_rd3, x_ev0, x_ev, x_ev1, x_ev2, x_pk, x_pk1, x_pk2, x_pk3, x_vv0, x_vv, x_vv1, x_op, x_op1, x_op2, x_ca, x_ck, x_ci, x_ci0, x_ci1, x_ci2, x_ci3, x_ci4, x_ci5, x_tup, x_tup1, x_lst, x_lst1, x_ch, x_ch1, x_ch2, x_ch3, x_ch4, x_ch5, x_asgT, x_asgT1, x_nx, x_par, x_par1, x_par2, x_par3, x_par31, x_par32, x_par33, x_tn, x_t0, x_tc, x_ts, x_ts0, x_ts1, x_up1, x_up2, x_upO, x_upI, x_app, x_app0, x_app1, x_for, x_for1, x_fl1, x_fl2, x_fl3, x_fl4, x_fl5, x_fl6, x_turn, x_its, x_its1, x_its2, x_its3, x_rg1, x_rg2, x_rg21, x_en, x_en1, x_zp, x_zp1, x_zp2, x_zp3, x_st, x_st0, x_st1, x_st2, x_st3, x_yes, x_lc2, x_rA1, x_rA2, x_rF1, x_rI1, x_rI2, x_wh1, x_wh2, x_wh3, x_wh4, x_wh5, o_add, o_sub, o_neg, o_lt, o_le, o_gt, o_ge, o_eq, o_ne, o_eqB, o_neB, o_int, o_abs, o_max, o_min, o_lenL, o_lenT, o_ix0, o_ix1, o_ixl0, o_ixl1, o_ixl2, o_isi, o_isi2, o_isN, o_notN, o_isB, o_notB, x_A0, x_F0, x_I0, x_A1, x_F1, x_I1, x_A2, x_F2, x_I2, x_A3, x_F3, x_I3, x_A4, x_F4, x_I4, x_A5, x_F5, x_I5, x_A6, x_F6, x_I6, x_A7, x_F7, x_I7, x_A8, x_F8, x_I8, x_wi0, x_wi, x_re0, x_re, x_re1, x_ok0, x_ok, x_ok1, x_ok2, o_not0, x_g0, x_gS, x_s0, x_sS, x_bs, x_bn, x_ms, x_isNnone, x_isNbool, x_isNint, x_isNstr, x_isNlist, x_isNtuple, x_isNdict, x_tyintnone, x_tyintbool, x_tyintint, x_tyintstr, x_tyintlist, x_tyinttuple, x_tyintdict, x_tyboolnone, x_tyboolbool, x_tyboolint, x_tyboolstr, x_tyboollist, x_tybooltuple, x_tybooldict, x_tystrnone, x_tystrbool, x_tystrint, x_tystrstr, x_tystrlist, x_tystrtuple, x_tystrdict, x_tytupnone, x_tytupbool, x_tytupint, x_tytupstr, x_tytuplist, x_tytuptuple, x_tytupdict, x_tylstnone, x_tylstbool, x_tylstint, x_tylststr, x_tylstlist, x_tylsttuple, x_tylstdict, x_tydctnone, x_tydctbool, x_tydctint, x_tydctstr, x_tydctlist, x_tydcttuple, x_tydctdict, x_be0, x_bn0, x_be1, x_bn1, x_be2, x_bn2, x_be3, x_bn3, List.length_cons, List.length_nil, List.map_cons, List.map_nil, List.replicate, List.cons_append, List.nil_append, List.append_nil, startE, pick, List.filterMap_cons, List.filterMap_nil, Bool.or_false, Bool.false_or, Bool.or_true, Bool.true_or, Bool.and_true, Bool.true_and, Bool.and_false, Bool.false_and, Bool.not_true, Bool.not_false, Bool.not_not, decide_true, decide_false, Int.cast_ofNat_Int, Nat.reduceAdd, Nat.zero_add, Int.reduceEq, Int.reduceLT, Int.reduceLE, Int.reduceGT, Int.reduceGE, Int.reduceAdd, Int.reduceSub, Int.reduceMul, Int.reduceNeg, Int.reducePow, Int.reduceToNat]
    rw [fr_pos e]
theorem e_in_rest (f n : Int) {s : Int} (h : 0 ≤ s) : sem_in_rest [.tuple [.int f, .int s], .int n] = some (.bool (inQ f s n)) := by
  rw [sem_in_rest, g_in_rest]
  unfold inQ
  by_cases e : s = 0
  · subst e
    simp only [x_seq, x_seq1, x_seq2, x_seq3, x_seq4, x_seq5, x_asg, x_asg1, x_asgF, x_asgF1, x_exp, x_exp1, x_ret, x_ret1, x_retF, x_retF1, x_retN, x_skip, x_brk, x_cnt, x_if, x_if1, x_if2, x_and, x_and1, x_and2, x_or, x_or1, x_or2, x_not, x_not1, x_bool, x_bool1, x_andV, x_andV1, x_andV2, x_orV, x_orV1, x_orV2, x_notV, x_notV1, x_ifV, x_ifV1, x_ifV2, x_cE, x_nm, x_nm1, x_nm2, x_rd, x_rd1, x_rd2, x_rd3, x_ev0, x_ev, x_ev1, x_ev2, x_pk, x_pk1, x_pk2, x_pk3, x_vv0, x_vv, x_vv1, x_op, x_op1, x_op2, x_ca, x_ck, x_ci, x_ci0, x_ci1, x_ci2, x_ci3, x_ci4, x_ci5, x_tup, x_tup1, x_lst, x_lst1, x_ch, x_ch1, x_ch2, x_ch3, x_ch4, x_ch5, x_asgT, x_asgT1, x_nx, x_par, x_par1, x_par2, x_par3, x_par31, x_par32, x_par33, x_tn, x_t0, x_tc, x_ts, x_ts0, x_ts1, x_up1, x_up2, x_upO, x_upI, x_app, x_app0, x_app1, x_for, x_for1, x_fl1, x_fl2, x_fl3, x_fl4, x_fl5, x_fl6, x_turn, x_its, x_its1, x_its2, x_its3, x_rg1, x_rg2, x_rg21, x_en, x_en1, x_zp, x_zp1, x_zp2, x_zp3, x_st, x_st0, x_st1, x_st2, x_st3, x_yes, x_lc2, x_rA1, x_rA2, x_rF1, x_rI1, x_rI2, x_wh1, x_wh2, x_wh3, x_wh4, x_wh5, o_add, o_sub, o_neg, o_lt, o_le, o_gt, o_ge, o_eq, o_ne, o_eqB, o_neB, o_int, o_abs, o_max, o_min, o_lenL, o_lenT, o_ix0, o_ix1, o_ixl0, o_ixl1, o_ixl2, o_isi, o_isi2, o_isN, o_notN, o_isB, o_notB, x_A0, x_F0, x_I0, x_A1, x_F1, x_I1, x_A2, x_F2, x_I2, x_A3, x_F3, x_I3, x_A4, x_F4, x_I4, x_A5, x_F5, x_I5, x_A6, x_F6, x_I6, x_A7, x_F7, x_I7, x_A8, x_F8, x_I8, x_wi0, x_wi, x_re0, x_re, x_re1, x_ok0, x_ok, x_ok1, x_ok2, o_not0, x_g0, x_gS, x_s0, x_sS, x_bs, x_bn, x_ms, x_isNnone, x_isNbool, x_isNint, x_isNstr, x_isNlist, x_isNtuple, x_isNdict, x_tyintnone, x_tyintbool, x_tyintint, x_tyintstr, x_tyintlist, x_tyinttuple, x_tyintdict, x_tyboolnone, x_tyboolbool, x_tyboolint, x_tyboolstr, x_tyboollist, x_tybooltuple, x_tybooldict, x_tystrnone, x_tystrbool, x_tystrint, x_tystrstr, x_tystrlist, x_tystrtuple, x_tystrdict, x_tytupnone, x_tytupbool, x_tytupint, x_tytupstr, x_tytuplist, x_tytuptuple, x_tytupdict, x_tylstnone, x_tylstbool, x_tylstint, x_tylststr, x_tylstlist, x_tylsttuple, x_tylstdict, x_tydctnone, x_tydctbool, x_tydctint, x_tydctstr, x_tydctlist, x_tydcttuple, x_tydctdict, x_be0, x_bn0, x_be1, x_bn1, x_be2, x_bn2, x_be3, x_bn3, List.length_cons, List.length_nil, List.map_cons, List.map_nil, List.replicate, List.cons_append, List.nil_append, List.append_nil, startE, pick, List.filterMap_cons, List.filterMap_nil, Bool.or_false, Bool.false_or, Bool.or_true, Bool.true_or, Bool.and_true, Bool.true_and, Bool.and_false, Bool.false_and, Bool.not_true, Bool.not_false, Bool.not_not, decide_true, decide_false, Int.cast_ofNat_Int, Nat.reduceAdd, Nat.zero_add, Int.reduceEq, Int.reduceLT, Int.reduceLE, Int.reduceGT, Int.reduceGE, Int.reduceAdd, Int.reduceSub, Int.reduceMul, Int.reduceNeg, Int.reducePow, Int.reduceToNat]
    simp only [if_true]
  · have hp : 0 < s := by omega
    simp only [e, o_mod hp, x_seq, x_seq1, x_seq2, x_seq3, x_seq4, x_seq5, x_asg, x_asg1, x_asgF, x_asgF1, x_exp, x_exp1, x_ret, x_ret1, x_retF, x_retF1, x_retN, x_skip, x_brk, x_cnt, x_if, x_if1, x_if2, x_and, x_and1, x_and2, x_or, x_or1, x_or2, x_not, x_not1, x_bool, x_bool1, x_andV, x_andV1, x_andV2, x_orV, x_orV1, x_orV2, x_notV, x_notV1, x_ifV, x_ifV1, x_ifV2, x_cE, x_nm, x_nm1, x_nm2, x_rd, x_rd1, x_rd2, x_rd3, x_ev0, x_ev, x_ev1, x_ev2, x_pk, x_pk1, x_pk2, x_pk3, x_vv0, x_vv, x_vv1, x_op, x_op1, x_op2, x_ca, x_ck, x_ci, x_ci0, x_ci1, x_ci2, x_ci3, x_ci4, x_ci5, x_tup, x_tup1, x_lst, x_lst1, x_ch, x_ch1, x_ch2, x_ch3, x_ch4, x_ch5, x_asgT, x_asgT1, x_nx, x_par, x_par1, x_par2, x_par3, x_par31, x_par32, x_par33, x_tn, x_t0, x_tc, x_ts, x_ts0, x_ts1, x_up1, x_up2, x_upO, x_upI, x_app, x_app0, x_app1, x_for, x_for1, x_fl1, x_fl2, x_fl3, x_fl4, x_fl5, x_fl6, x_turn, x_its, x_its1, x_its2, x_its3, x_rg1, x_rg2, x_rg21, x_en, x_en1, x_zp, x_zp1, x_zp2, x_zp3, x_st, x_st0, x_st1, x_st2, x_st3, x_yes, x_lc2, x_rA1, x_rA2, x_rF1, x_rI1, x_rI2, x_wh1, x_wh2, x_wh3, x_wh4, x_wh5, o_add, o_sub, o_neg, o_lt, o_le, o_gt, o_ge, o_eq, o_ne, o_eqB, o_neB, o_int, o_abs, o_max, o_min, o_lenL, o_lenT, o_ix0, o_ix1, o_ixl0, o_ixl1, o_ixl2, o_isi, o_isi2, o_isN, o_notN, o_isB, o_notB, x_A0, x_F0, x_I0, x_A1, x_F1, x_I1, x_A2, x_F2, x_I2, x_A3, x_F3, x_I3, x_A4, x_F4, x_I4, x_A5, x_F5, x_I5, x_A6, x_F6, x_I6, x_A7, x_F7, x_I7, x_A8, x_F8, x_I8, x_wi0, x_wi, x_re0, x_re, x_re1, x_ok0, x_ok, x_ok1, x_ok2, o_not0, x_g0, x_gS, x_s0, x_sS, x_bs, x_bn, x_ms, x_isNnone, x_isNbool, x_isNint, x_isNstr, x_isNlist, x_isNtuple, x_isNdict, x_tyintnone, x_tyintbool, x_tyintint, x_tyintstr, x_tyintlist, x_tyinttuple, x_tyintdict, x_tyboolnone, x_tyboolbool, x_tyboolint, x_tyboolstr, x_tyboollist, x_tybooltuple, x_tybooldict, x_tystrnone, x_tystrbool, x_tystrint, x_tystrstr, x_tystrlist, x_tystrtuple, x_tystrdict, x_tytupnone, x_tytupbool, x_tytupint, x_tytupstr, x_tytuplist, x_tytuptuple, x_tytupdict, x_tylstnone, x_tylstbool, x_tylstint, x_tylststr, x_tylstlist, x_tylsttuple, x_tylstdict, x_tydctnone, x_tydctbool, x_tydctint, x_tydctstr, x_tydctlist, x_tydcttuple, x_tydctdict, x_be0, x_bn0, x_be1, x_bn1, x_be2, x_bn2, x_be3, x_bn3, List.length_cons, List.length_nil, List.map_cons, List.map_nil, List.replicate, List.cons_append, List.nil_append, List.append_nil, startE, pick, List.filterMap_cons, List.filterMap_nil, Bool.or_false, Bool.false_or, Bool.or_true, Bool.true_or, Bool.and_true, Bool.true_and, Bool.and_false, Bool.false_and, Bool.not_true, Bool.not_false, Bool.not_not, decide_true, decide_false, Int.cast_ofNat_Int, Nat.reduceAdd, Nat.zero_add, Int.reduceEq, Int.reduceLT, Int.reduceLE, Int.reduceGT, Int.reduceGE, Int.reduceAdd, Int.reduceSub, Int.reduceMul, Int.reduceNeg, Int.reducePow, Int.reduceToNat]
    simp only [if_false]
theorem e_join (r o : Int × Int) (hr : 0 ≤ r.2) (ho : 0 ≤ o.2) : sem_join_rests [eR r, eR o] = some (eR (jn r o)) := by
  rw [sem_join_rests, g_join_rests]
  simp only [e_common hr ho, e_common (gc_nn r.2 o.2) (Int.natCast_nonneg (r.1 - o.1).natAbs), e_rest_from _ (gc_nn _ _), x_seq, x_seq1, x_seq2, x_seq3, x_seq4, x_seq5, x_asg, x_asg1, x_asgF, x_asgF1, x_exp, x_exp1, x_ret, x_ret1, x_retF, x_retF1, x_retN, x_skip, x_brk, x_cnt, x_if, x_if1, x_if2, x_and, x_and1, x_and2, x_or, x_or1, x_or2, x_not, x_not1, x_bool, x_bool1, x_andV, x_andV1, x_andV2, x_orV, x_orV1, x_orV2, x_notV, x_notV1, x_ifV, x_ifV1, x_ifV2, x_cE, x_nm, x_nm1, x_nm2, x_rd, x_rd1, x_rd2, x_rd3, x_ev0, x_ev, x_ev1, x_ev2, x_pk, x_pk1, x_pk2, x_pk3, x_vv0, x_vv, x_vv1, x_op, x_op1, x_op2, x_ca, x_ck, x_ci, x_ci0, x_ci1, x_ci2, x_ci3, x_ci4, x_ci5, x_tup, x_tup1, x_lst, x_lst1, x_ch, x_ch1, x_ch2, x_ch3, x_ch4, x_ch5, x_asgT, x_asgT1, x_nx, x_par, x_par1, x_par2, x_par3, x_par31, x_par32, x_par33, x_tn, x_t0, x_tc, x_ts, x_ts0, x_ts1, x_up1, x_up2, x_upO, x_upI, x_app, x_app0, x_app1, x_for, x_for1, x_fl1, x_fl2, x_fl3, x_fl4, x_fl5, x_fl6, x_turn, x_its, x_its1, x_its2, x_its3, x_rg1, x_rg2, x_rg21, x_en, x_en1, x_zp, x_zp1, x_zp2, x_zp3, x_st, x_st0, x_st1, x_st2, x_st3, x_yes, x_lc2, x_rA1, x_rA2, x_rF1, x_rI1, x_rI2, x_wh1, x_wh2, x_wh3, x_wh4, x_wh5, o_add, o_sub, o_neg, o_lt, o_le, o_gt, o_ge, o_eq, o_ne, o_eqB, o_neB, o_int, o_abs, o_max, o_min, o_lenL, o_lenT, o_ix0, o_ix1, o_ixl0, o_ixl1, o_ixl2, o_isi, o_isi2, o_isN, o_notN, o_isB, o_notB, x_A0, x_F0, x_I0, x_A1, x_F1, x_I1, x_A2, x_F2, x_I2, x_A3, x_F3, x_I3, x_A4, x_F4, x_I4, x_A5, x_F5, x_I5, x_A6, x_F6, x_I6, x_A7, x_F7, x_I7, x_A8, x_F8, x_I8, x_wi0, x_wi, x_re0, x_re, x_re1, x_ok0, x_ok, x_ok1, x_ok2, o_not0, x_g0, x_gS, x_s0, x_sS, x_bs, x_bn, x_ms, x_isNnone, x_isNbool, x_isNint, x_isNstr, x_isNlist, x_isNtuple, x_isNdict, x_tyintnone, x_tyintbool, x_tyintint, x_tyintstr, x_tyintlist, x_tyinttuple, x_tyintdict, x_tyboolnone, x_tyboolbool, x_tyboolint, x_tyboolstr, x_tyboollist, x_tybooltuple, x_tybooldict, x_tystrnone, x_tystrbool, x_tystrint, x_tystrstr, x_tystrlist, x_tystrtuple, x_tystrdict, x_tytupnone, x_tytupbool, x_tytupint, x_tytupstr, x_tytuplist, x_tytuptuple, x_tytupdict, x_tylstnone, x_tylstbool, x_tylstint, x_tylststr, x_tylstlist, x_tylsttuple, x_tylstdict, x_tydctnone, x_tydctbool, x_tydctint, x_tydctstr, x_tydctlist, x_tydcttuple, x_tydctdict, x_be0, x_bn0, x_be1, x_bn1, x_be2, x_bn2, x_be3, x_bn3, List.length_cons, List.length_nil, List.map_cons, List.map_nil, List.replicate, List.cons_append, List.nil_append, List.append_nil, startE, pick, List.filterMap_cons, List.filterMap_nil, Bool.or_false, Bool.false_or, Bool.or_true, Bool.true_or, Bool.and_true, Bool.true_and, Bool.and_false, Bool.false_and, Bool.not_true, Bool.not_false, Bool.not_not, decide_true, decide_false, Int.cast_ofNat_Int, Nat.reduceAdd, Nat.zero_add, Int.reduceEq, Int.reduceLT, Int.reduceLE, Int.reduceGT, Int.reduceGE, Int.reduceAdd, Int.reduceSub, Int.reduceMul, Int.reduceNeg, Int.reducePow, Int.reduceToNat]
  rfl
theorem divB_mulB : divB ≤ mulB := Nat.pow_le_pow_right (by decide) (by decide)
theorem small_mul {x X : Int} (h0 : 0 ≤ x) (h1 : x ≤ X) (h : X.natAbs < divB) : x.natAbs < mulB := Nat.lt_of_lt_of_le (Nat.lt_of_le_of_lt (by omega) h) divB_mulB
theorem small_div {x X : Int} (h0 : 0 ≤ x) (h1 : x ≤ X) (h : X.natAbs < divB) : x.natAbs < divB := Nat.lt_of_le_of_lt (by omega) h
theorem w_turns (one other X : Int) (hX : X.natAbs < divB) (hoX : other ≤ X) : ∀ (n : Nat) (before now u v σ : Int) (m0 : Cell), now.toNat ≤ n → 0 ≤ now → 0 ≤ before → before ≤ X → now ≤ X → (σ = 1 ∨ σ = -1) → 0 ≤ u → 0 ≤ v → (before = 0 → v = 0) → u * now + v * before = other →
    other ∣ σ * u * one - before → other ∣ -(σ * v) * one - now →
    ∃ (f s : Int) (m : Cell), whileM wc_turns_back_1 wb_turns_back_2 [.sh (.int one), .sh (.int other), .sh (.int before), .sh (.int now), .sh (.int (σ * u)), .sh (.int (-(σ * v))), m0] =
      some (.nx [.sh (.int one), .sh (.int other), .sh (.int (gc before now)), .sh (.int 0), .sh (.int f), .sh (.int s), m]) ∧ other ∣ f * one - gc before now := by
  intro n
  induction n with
  | zero =>
    intro before now u v σ m0 hn h0 hb hbX hnX hσ hu hv hbv hid hd1 hd2
    obtain rfl : now = 0 := by omega
    refine ⟨σ * u, -(σ * v), m0, ?_, ?_⟩
    · rw [x_wh, wc_turns_back_1]
      simp only [x_seq, x_seq1, x_seq2, x_seq3, x_seq4, x_seq5, x_asg, x_asg1, x_asgF, x_asgF1, x_exp, x_exp1, x_ret, x_ret1, x_retF, x_retF1, x_retN, x_skip, x_brk, x_cnt, x_if, x_if1, x_if2, x_and, x_and1, x_and2, x_or, x_or1, x_or2, x_not, x_not1, x_bool, x_bool1, x_andV, x_andV1, x_andV2, x_orV, x_orV1, x_orV2, x_notV, x_notV1, x_ifV, x_ifV1, x_ifV2, x_cE, x_nm, x_nm1, x_nm2, x_rd, x_rd1, x_rd2, x_rd3, x_ev0, x_ev, x_ev1, x_ev2, x_pk, x_pk1, x_pk2, x_pk3, x_vv0, x_vv, x_vv1, x_op, x_op1, x_op2, x_ca, x_ck, x_ci, x_ci0, x_ci1, x_ci2, x_ci3, x_ci4, x_ci5, x_tup, x_tup1, x_lst, x_lst1, x_ch, x_ch1, x_ch2, x_ch3, x_ch4, x_ch5, x_asgT, x_asgT1, x_nx, x_par, x_par1, x_par2, x_par3, x_par31, x_par32, x_par33, x_tn, x_t0, x_tc, x_ts, x_ts0, x_ts1, x_up1, x_up2, x_upO, x_upI, x_app, x_app0, x_app1, x_for, x_for1, x_fl1, x_fl2, x_fl3, x_fl4, x_fl5, x_fl6, x_turn, x_its, x_its1, x_its2, x_its3, x_rg1, x_rg2, x_rg21, x_en, x_en1, x_zp, x_zp1, x_zp2, x_zp3, x_st, x_st0, x_st1, x_st2, x_st3, x_yes, x_lc2, x_rA1, x_rA2, x_rF1, x_rI1, x_rI2, x_wh1, x_wh2, x_wh3, x_wh4, x_wh5, o_add, o_sub, o_neg, o_lt, o_le, o_gt, o_ge, o_eq, o_ne, o_eqB, o_neB, o_int, o_abs, o_max, o_min, o_lenL, o_lenT, o_ix0, o_ix1, o_ixl0, o_ixl1, o_ixl2, o_isi, o_isi2, o_isN, o_notN, o_isB, o_notB, x_A0, x_F0, x_I0, x_A1, x_F1, x_I1, x_A2, x_F2, x_I2, x_A3, x_F3, x_I3, x_A4, x_F4, x_I4, x_A5, x_F5, x_I5, x_A6, x_F6, x_I6, x_A7, x_F7, x_I7, x_A8, x_F8, x_I8, x_wi0, x_wi, x_re0, x_re, x_re1, x_ok0, x_ok, x_ok1, x_ok2, o_not0, x_g0, x_gS, x_s0, x_sS, x_bs, x_bn, x_ms, x_isNnone, x_isNbool, x_isNint, x_isNstr, x_isNlist, x_isNtuple, x_isNdict, x_tyintnone, x_tyintbool, x_tyintint, x_tyintstr, x_tyintlist, x_tyinttuple, x_tyintdict, x_tyboolnone, x_tyboolbool, x_tyboolint, x_tyboolstr, x_tyboollist, x_tybooltuple, x_tybooldict, x_tystrnone, x_tystrbool, x_tystrint, x_tystrstr, x_tystrlist, x_tystrtuple, x_tystrdict, x_tytupnone, x_tytupbool, x_tytupint, x_tytupstr, x_tytuplist, x_tytuptuple, x_tytupdict, x_tylstnone, x_tylstbool, x_tylstint, x_tylststr, x_tylstlist, x_tylsttuple, x_tylstdict, x_tydctnone, x_tydctbool, x_tydctint, x_tydctstr, x_tydctlist, x_tydcttuple, x_tydctdict, x_be0, x_bn0, x_be1, x_bn1, x_be2, x_bn2, x_be3, x_bn3, List.length_cons, List.length_nil, List.map_cons, List.map_nil, List.replicate, List.cons_append, List.nil_append, List.append_nil, startE, pick, List.filterMap_cons, List.filterMap_nil, Bool.or_false, Bool.false_or, Bool.or_true, Bool.true_or, Bool.and_true, Bool.true_and, Bool.and_false, Bool.false_and, Bool.not_true, Bool.not_false, Bool.not_not, decide_true, decide_false, Int.cast_ofNat_Int, Nat.reduceAdd, Nat.zero_add, Int.reduceEq, Int.reduceLT, Int.reduceLE, Int.reduceGT, Int.reduceGE, Int.reduceAdd, Int.reduceSub, Int.reduceMul, Int.reduceNeg, Int.reducePow, Int.reduceToNat]
      rw [gc_zero hb]
    · rw [gc_zero hb]; exact hd1
  | succ n ih =>
    intro before now u v σ m0 hn h0 hb hbX hnX hσ hu hv hbv hid hd1 hd2
    by_cases e : now = 0
    · subst e
      refine ⟨σ * u, -(σ * v), m0, ?_, ?_⟩
      · rw [x_wh, wc_turns_back_1]
        simp only [x_seq, x_seq1, x_seq2, x_seq3, x_seq4, x_seq5, x_asg, x_asg1, x_asgF, x_asgF1, x_exp, x_exp1, x_ret, x_ret1, x_retF, x_retF1, x_retN, x_skip, x_brk, x_cnt, x_if, x_if1, x_if2, x_and, x_and1, x_and2, x_or, x_or1, x_or2, x_not, x_not1, x_bool, x_bool1, x_andV, x_andV1, x_andV2, x_orV, x_orV1, x_orV2, x_notV, x_notV1, x_ifV, x_ifV1, x_ifV2, x_cE, x_nm, x_nm1, x_nm2, x_rd, x_rd1, x_rd2, x_rd3, x_ev0, x_ev, x_ev1, x_ev2, x_pk, x_pk1, x_pk2, x_pk3, x_vv0, x_vv, x_vv1, x_op, x_op1, x_op2, x_ca, x_ck, x_ci, x_ci0, x_ci1, x_ci2, x_ci3, x_ci4, x_ci5, x_tup, x_tup1, x_lst, x_lst1, x_ch, x_ch1, x_ch2, x_ch3, x_ch4, x_ch5, x_asgT, x_asgT1, x_nx, x_par, x_par1, x_par2, x_par3, x_par31, x_par32, x_par33, x_tn, x_t0, x_tc, x_ts, x_ts0, x_ts1, x_up1, x_up2, x_upO, x_upI, x_app, x_app0, x_app1, x_for, x_for1, x_fl1, x_fl2, x_fl3, x_fl4, x_fl5, x_fl6, x_turn, x_its, x_its1, x_its2, x_its3, x_rg1, x_rg2, x_rg21, x_en, x_en1, x_zp, x_zp1, x_zp2, x_zp3, x_st, x_st0, x_st1, x_st2, x_st3, x_yes, x_lc2, x_rA1, x_rA2, x_rF1, x_rI1, x_rI2, x_wh1, x_wh2, x_wh3, x_wh4, x_wh5, o_add, o_sub, o_neg, o_lt, o_le, o_gt, o_ge, o_eq, o_ne, o_eqB, o_neB, o_int, o_abs, o_max, o_min, o_lenL, o_lenT, o_ix0, o_ix1, o_ixl0, o_ixl1, o_ixl2, o_isi, o_isi2, o_isN, o_notN, o_isB, o_notB, x_A0, x_F0, x_I0, x_A1, x_F1, x_I1, x_A2, x_F2, x_I2, x_A3, x_F3, x_I3, x_A4, x_F4, x_I4, x_A5, x_F5, x_I5, x_A6, x_F6, x_I6, x_A7, x_F7, x_I7, x_A8, x_F8, x_I8, x_wi0, x_wi, x_re0, x_re, x_re1, x_ok0, x_ok, x_ok1, x_ok2, o_not0, x_g0, x_gS, x_s0, x_sS, x_bs, x_bn, x_ms, x_isNnone, x_isNbool, x_isNint, x_isNstr, x_isNlist, x_isNtuple, x_isNdict, x_tyintnone, x_tyintbool, x_tyintint, x_tyintstr, x_tyintlist, x_tyinttuple, x_tyintdict, x_tyboolnone, x_tyboolbool, x_tyboolint, x_tyboolstr, x_tyboollist, x_tybooltuple, x_tybooldict, x_tystrnone, x_tystrbool, x_tystrint, x_tystrstr, x_tystrlist, x_tystrtuple, x_tystrdict, x_tytupnone, x_tytupbool, x_tytupint, x_tytupstr, x_tytuplist, x_tytuptuple, x_tytupdict, x_tylstnone, x_tylstbool, x_tylstint, x_tylststr, x_tylstlist, x_tylsttuple, x_tylstdict, x_tydctnone, x_tydctbool, x_tydctint, x_tydctstr, x_tydctlist, x_tydcttuple, x_tydctdict, x_be0, x_bn0, x_be1, x_bn1, x_be2, x_bn2, x_be3, x_bn3, List.length_cons, List.length_nil, List.map_cons, List.map_nil, List.replicate, List.cons_append, List.nil_append, List.append_nil, startE, pick, List.filterMap_cons, List.filterMap_nil, Bool.or_false, Bool.false_or, Bool.or_true, Bool.true_or, Bool.and_true, Bool.true_and, Bool.and_false, Bool.false_and, Bool.not_true, Bool.not_false, Bool.not_not, decide_true, decide_false, Int.cast_ofNat_Int, Nat.reduceAdd, Nat.zero_add, Int.reduceEq, Int.reduceLT, Int.reduceLE, Int.reduceGT, Int.reduceGE, Int.reduceAdd, Int.reduceSub, Int.reduceMul, Int.reduceNeg, Int.reducePow, Int.reduceToNat]
        rw [gc_zero hb]
      · rw [gc_zero hb]; exact hd1
    · have hp : 0 < now := by omega
      have hdm := Int.mul_ediv_add_emod before now
      have h1 := Int.emod_nonneg before e
      have h2 := Int.emod_lt_of_pos before hp
      have hq0 : 0 ≤ before / now := Int.ediv_nonneg hb h0
      have hq1 : before / now ≤ before := Int.ediv_le_self now hb
      have hv1 : v ≤ X := by
        by_cases z : before = 0
        · rw [hbv z]; omega
        · have h3 : v * 1 ≤ v * before := Int.mul_le_mul_of_nonneg_left (by omega) hv
          have h4 : 0 ≤ u * now := Int.mul_nonneg hu h0
          omega
      have hsv : (-(σ * v)).natAbs < mulB := by
        rcases hσ with rfl | rfl
        · have := small_mul hv hv1 hX
          rwa [show (-(1 * v)).natAbs = v.natAbs by omega]
        · have := small_mul hv hv1 hX
          rwa [show (-(-1 * v)).natAbs = v.natAbs by omega]
      have m1 := o_mul (i := before / now) (j := now) (small_mul hq0 (by omega) hX) (small_mul h0 hnX hX)
      have m2 := o_mul (i := before / now) (j := -(σ * v)) (small_mul hq0 (by omega) hX) hsv
      obtain ⟨f, s, m, e1, e2⟩ := ih now (before % now) v (u + before / now * v) (-σ) (.sh (.int (before / now))) (by omega) h1 h0 hnX (by omega) (by omega) hv
        (by have := Int.mul_nonneg hq0 hv; omega) (fun z => absurd z (by omega))
        (by have : before % now = before - now * (before / now) := by omega
            rw [this]; grind)
        (by rw [show -σ * v * one - now = -(σ * v) * one - now by grind]; exact hd2)
        (by
          obtain ⟨x, hx⟩ := hd1
          obtain ⟨y, hy⟩ := hd2
          have : before % now = before - now * (before / now) := by omega
          exact dvd_of (x - before / now * y) (by rw [this]; grind))
      refine ⟨f, s, m, ?_, ?_⟩
      · rw [x_wh, wc_turns_back_1, wb_turns_back_2]
        simp only [show (now > 0) = True from eq_true hp, o_fdiv hp (small_div h0 hnX hX), m1, m2, x_seq, x_seq1, x_seq2, x_seq3, x_seq4, x_seq5, x_asg, x_asg1, x_asgF, x_asgF1, x_exp, x_exp1, x_ret, x_ret1, x_retF, x_retF1, x_retN, x_skip, x_brk, x_cnt, x_if, x_if1, x_if2, x_and, x_and1, x_and2, x_or, x_or1, x_or2, x_not, x_not1, x_bool, x_bool1, x_andV, x_andV1, x_andV2, x_orV, x_orV1, x_orV2, x_notV, x_notV1, x_ifV, x_ifV1, x_ifV2, x_cE, x_nm, x_nm1, x_nm2, x_rd, x_rd1, x_rd2, x_rd3, x_ev0, x_ev, x_ev1, x_ev2, x_pk, x_pk1, x_pk2, x_pk3, x_vv0, x_vv, x_vv1, x_op, x_op1, x_op2, x_ca, x_ck, x_ci, x_ci0, x_ci1, x_ci2, x_ci3, x_ci4, x_ci5, x_tup, x_tup1, x_lst, x_lst1, x_ch, x_ch1, x_ch2, x_ch3, x_ch4, x_ch5, x_asgT, x_asgT1, x_nx, x_par, x_par1, x_par2, x_par3, x_par31, x_par32, x_par33, x_tn, x_t0, x_tc, x_ts, x_ts0, x_ts1, x_up1, x_up2, x_upO, x_upI, x_app, x_app0, x_app1, x_for, x_for1, x_fl1, x_fl2, x_fl3, x_fl4, x_fl5, x_fl6, x_turn, x_its, x_its1, x_its2, x_its3, x_rg1, x_rg2, x_rg21, x_en, x_en1, x_zp, x_zp1, x_zp2, x_zp3, x_st, x_st0, x_st1, x_st2, x_st3, x_yes, x_lc2, x_rA1, x_rA2, x_rF1, x_rI1, x_rI2, x_wh1, x_wh2, x_wh3, x_wh4, x_wh5, o_add, o_sub, o_neg, o_lt, o_le, o_gt, o_ge, o_eq, o_ne, o_eqB, o_neB, o_int, o_abs, o_max, o_min, o_lenL, o_lenT, o_ix0, o_ix1, o_ixl0, o_ixl1, o_ixl2, o_isi, o_isi2, o_isN, o_notN, o_isB, o_notB, x_A0, x_F0, x_I0, x_A1, x_F1, x_I1, x_A2, x_F2, x_I2, x_A3, x_F3, x_I3, x_A4, x_F4, x_I4, x_A5, x_F5, x_I5, x_A6, x_F6, x_I6, x_A7, x_F7, x_I7, x_A8, x_F8, x_I8, x_wi0, x_wi, x_re0, x_re, x_re1, x_ok0, x_ok, x_ok1, x_ok2, o_not0, x_g0, x_gS, x_s0, x_sS, x_bs, x_bn, x_ms, x_isNnone, x_isNbool, x_isNint, x_isNstr, x_isNlist, x_isNtuple, x_isNdict, x_tyintnone, x_tyintbool, x_tyintint, x_tyintstr, x_tyintlist, x_tyinttuple, x_tyintdict, x_tyboolnone, x_tyboolbool, x_tyboolint, x_tyboolstr, x_tyboollist, x_tybooltuple, x_tybooldict, x_tystrnone, x_tystrbool, x_tystrint, x_tystrstr, x_tystrlist, x_tystrtuple, x_tystrdict, x_tytupnone, x_tytupbool, x_tytupint, x_tytupstr, x_tytuplist, x_tytuptuple, x_tytupdict, x_tylstnone, x_tylstbool, x_tylstint, x_tylststr, x_tylstlist, x_tylsttuple, x_tylstdict, x_tydctnone, x_tydctbool, x_tydctint, x_tydctstr, x_tydctlist, x_tydcttuple, x_tydctdict, x_be0, x_bn0, x_be1, x_bn1, x_be2, x_bn2, x_be3, x_bn3, List.length_cons, List.length_nil, List.map_cons, List.map_nil, List.replicate, List.cons_append, List.nil_append, List.append_nil, startE, pick, List.filterMap_cons, List.filterMap_nil, Bool.or_false, Bool.false_or, Bool.or_true, Bool.true_or, Bool.and_true, Bool.true_and, Bool.and_false, Bool.false_and, Bool.not_true, Bool.not_false, Bool.not_not, decide_true, decide_false, Int.cast_ofNat_Int, Nat.reduceAdd, Nat.zero_add, Int.reduceEq, Int.reduceLT, Int.reduceLE, Int.reduceGT, Int.reduceGE, Int.reduceAdd, Int.reduceSub, Int.reduceMul, Int.reduceNeg, Int.reducePow, Int.reduceToNat]
        rw [wc_turns_back_1, wb_turns_back_2] at e1
        rw [show -(σ * v) = -σ * v by grind, show σ * u - before / now * (-σ * v) = -(-σ * (u + before / now * v)) by grind, show before - before / now * now = before % now by rw [Int.mul_comm] at hdm; omega, e1, gc_step]
      · rw [← gc_step before now]; exact e2
/-- the step back -/
theorem e_turns {one other : Int} (h0 : 0 ≤ one) (h1 : one ≤ other) (h2 : 0 < other) (hX : other.natAbs < divB) :
    ∃ r : Int, sem_turns_back [.int one, .int other] = some (.int r) ∧ 0 ≤ r ∧ r < other ∧ other ∣ r * one - gc one other := by
  obtain ⟨f, s, m, e1, e2⟩ := w_turns one other other hX (Int.le_refl _) _ one other 1 0 1 .no (Nat.le_refl _) (by omega) h0 h1 (Int.le_refl _) (.inl rfl) (by omega) (by omega) (fun _ => rfl) (by omega) (dvd_of 0 (by omega)) (dvd_of (-1) (by omega))
  refine ⟨f % other, ?_, Int.emod_nonneg f (by omega), Int.emod_lt_of_pos f h2, ?_⟩
  · rw [sem_turns_back, g_turns_back]
    have e1' : whileM wc_turns_back_1 wb_turns_back_2 [.sh (.int one), .sh (.int other), .sh (.int one), .sh (.int other), .sh (.int 1), .sh (.int 0), .no] = _ := e1
    simp only [x_tt _ _ _ _ (show [PyData.int one, PyData.int other, PyData.int 1, PyData.int 0].length = 4 from rfl), e1', show (other > 0) = True from eq_true h2, o_mod h2, x_seq, x_seq1, x_seq2, x_seq3, x_seq4, x_seq5, x_asg, x_asg1, x_asgF, x_asgF1, x_exp, x_exp1, x_ret, x_ret1, x_retF, x_retF1, x_retN, x_skip, x_brk, x_cnt, x_if, x_if1, x_if2, x_and, x_and1, x_and2, x_or, x_or1, x_or2, x_not, x_not1, x_bool, x_bool1, x_andV, x_andV1, x_andV2, x_orV, x_orV1, x_orV2, x_notV, x_notV1, x_ifV, x_ifV1, x_ifV2, x_cE, x_nm, x_nm1, x_nm2, x_rd, x_rd1, x_rd2, x_rd3, x_ev0, x_ev, x_ev1, x_ev2, x_pk, x_pk1, x_pk2, x_pk3, x_vv0, x_vv, x_vv1, x_op, x_op1, x_op2, x_ca, x_ck, x_ci, x_ci0, x_ci1, x_ci2, x_ci3, x_ci4, x_ci5, x_tup, x_tup1, x_lst, x_lst1, x_ch, x_ch1, x_ch2, x_ch3, x_ch4, x_ch5, x_asgT, x_asgT1, x_nx, x_par, x_par1, x_par2, x_par3, x_par31, x_par32, x_par33, x_tn, x_t0, x_tc, x_ts, x_ts0, x_ts1, x_up1, x_up2, x_upO, x_upI, x_app, x_app0, x_app1, x_for, x_for1, x_fl1, x_fl2, x_fl3, x_fl4, x_fl5, x_fl6, x_turn, x_its, x_its1, x_its2, x_its3, x_rg1, x_rg2, x_rg21, x_en, x_en1, x_zp, x_zp1, x_zp2, x_zp3, x_st, x_st0, x_st1, x_st2, x_st3, x_yes, x_lc2, x_rA1, x_rA2, x_rF1, x_rI1, x_rI2, x_wh1, x_wh2, x_wh3, x_wh4, x_wh5, o_add, o_sub, o_neg, o_lt, o_le, o_gt, o_ge, o_eq, o_ne, o_eqB, o_neB, o_int, o_abs, o_max, o_min, o_lenL, o_lenT, o_ix0, o_ix1, o_ixl0, o_ixl1, o_ixl2, o_isi, o_isi2, o_isN, o_notN, o_isB, o_notB, x_A0, x_F0, x_I0, x_A1, x_F1, x_I1, x_A2, x_F2, x_I2, x_A3, x_F3, x_I3, x_A4, x_F4, x_I4, x_A5, x_F5, x_I5, x_A6, x_F6, x_I6, x_A7, x_F7, x_I7, x_A8, x_F8, x_I8, x_wi0, x_wi, x_re0, x_re, x_re1, x_ok0, x_ok, x_ok1, x_ok2, o_not0, x_g0, x_gS, x_s0, x_sS, x_bs, x_bn, x_ms, x_isNnone, x_isNbool, x_isNint, x_isNstr, x_isNlist, x_isNtuple, x_isNdict, x_tyintnone, x_tyintbool, x_tyintint, x_tyintstr, x_tyintlist, x_tyinttuple, x_tyintdict, x_tyboolnone, x_tyboolbool, x_tyboolint, x_tyboolstr, x_tyboollist, x_tybooltuple, x_tybooldict, x_tystrnone, x_tystrbool, x_tystrint, x_tystrstr, x_tystrlist, x_tystrtuple, x_tystrdict, x_tytupnone, x_tytupbool, x_tytupint, x_tytupstr, x_tytuplist, x_tytuptuple, x_tytupdict, x_tylstnone, x_tylstbool, x_tylstint, x_tylststr, x_tylstlist, x_tylsttuple, x_tylstdict, x_tydctnone, x_tydctbool, x_tydctint, x_tydctstr, x_tydctlist, x_tydcttuple, x_tydctdict, x_be0, x_bn0, x_be1, x_bn1, x_be2, x_bn2, x_be3, x_bn3, List.length_cons, List.length_nil, List.map_cons, List.map_nil, List.replicate, List.cons_append, List.nil_append, List.append_nil, startE, pick, List.filterMap_cons, List.filterMap_nil, Bool.or_false, Bool.false_or, Bool.or_true, Bool.true_or, Bool.and_true, Bool.true_and, Bool.and_false, Bool.false_and, Bool.not_true, Bool.not_false, Bool.not_not, decide_true, decide_false, Int.cast_ofNat_Int, Nat.reduceAdd, Nat.zero_add, Int.reduceEq, Int.reduceLT, Int.reduceLE, Int.reduceGT, Int.reduceGE, Int.reduceAdd, Int.reduceSub, Int.reduceMul, Int.reduceNeg, Int.reducePow, Int.reduceToNat]
  · obtain ⟨k, hk⟩ := e2
    obtain ⟨l, hl⟩ := emod_dvd f other
    exact dvd_of (k - l * one) (by grind)
theorem gc_comm (a b : Int) : gc a b = gc b a := by unfold gc; rw [Int.gcd_comm]
/-- numbers within reach -/
abbrev Sm (x : Int) : Prop := x.natAbs < 2 ^ 4000
theorem pow_split : (2 : Nat) ^ 4001 = 2 ^ 4000 + 2 ^ 4000 := by rw [Nat.pow_succ]; omega
theorem sm_div {x : Int} (h : Sm x) : x.natAbs < divB := Nat.lt_of_lt_of_le h (Nat.pow_le_pow_right (by decide) (by decide))
theorem sm_mul {x : Int} (h : Sm x) : x.natAbs < mulB := Nat.lt_of_lt_of_le h (Nat.pow_le_pow_right (by decide) (by decide))
theorem big_mul {x : Int} (h : x.natAbs < 2 ^ 9000) : x.natAbs < mulB := Nat.lt_of_lt_of_le h (Nat.pow_le_pow_right (by decide) (by decide))
theorem sm_sub {x y : Int} (h : Sm x) (h' : Sm y) : (x - y).natAbs < 2 ^ 4001 := by
  rw [pow_split]
  have : (x - y).natAbs ≤ x.natAbs + y.natAbs := by omega
  unfold Sm at h h'
  omega
theorem mul_pow {x y : Int} {a b c : Nat} (h : x.natAbs < 2 ^ a) (h' : y.natAbs < 2 ^ b) (e : a + b = c) : (x * y).natAbs < 2 ^ c := by
  rw [Int.natAbs_mul, ← e, Nat.pow_add]
  exact Nat.mul_lt_mul_of_lt_of_le h (Nat.le_of_lt h') (Nat.two_pow_pos b)
theorem lt_pow {x y : Nat} {a b : Nat} (h : x < 2 ^ a) (hy : y ≤ x) (e : a ≤ b) : y < 2 ^ b := Nat.lt_of_le_of_lt hy (Nat.lt_of_lt_of_le h (Nat.pow_le_pow_right (by decide) e))
theorem div_le_abs (x : Int) {c : Int} (hc : 0 < c) : (x / c).natAbs ≤ x.natAbs := Int.natAbs_ediv_le_natAbs x c
theorem e_meet (r o : Int × Int) (hr : 0 ≤ r.2) (ho : 0 ≤ o.2) (s1 : Sm r.1) (s2 : Sm r.2) (s3 : Sm o.1) (s4 : Sm o.2) : ∃ M, sem_meet_rests [eR r, eR o] = some (eO M) ∧ IsMt r o M := by
  obtain ⟨f, s⟩ := r
  obtain ⟨g, t⟩ := o
  simp only at hr ho s1 s2 s3 s4
  rw [sem_meet_rests, g_meet_rests]
  by_cases es : s = 0
  · subst es
    refine ⟨_, ?_, mt_zero⟩
    cases hq : inQ g t f with
    | true =>
      simp only [e_in_rest g f ho, hq, eO, if_true, x_seq, x_seq1, x_seq2, x_seq3, x_seq4, x_seq5, x_asg, x_asg1, x_asgF, x_asgF1, x_exp, x_exp1, x_ret, x_ret1, x_retF, x_retF1, x_retN, x_skip, x_brk, x_cnt, x_if, x_if1, x_if2, x_and, x_and1, x_and2, x_or, x_or1, x_or2, x_not, x_not1, x_bool, x_bool1, x_andV, x_andV1, x_andV2, x_orV, x_orV1, x_orV2, x_notV, x_notV1, x_ifV, x_ifV1, x_ifV2, x_cE, x_nm, x_nm1, x_nm2, x_rd, x_rd1, x_rd2, x_rd3, x_ev0, x_ev, x_ev1, x_ev2, x_pk, x_pk1, x_pk2, x_pk3, x_vv0, x_vv, x_vv1, x_op, x_op1, x_op2, x_ca, x_ck, x_ci, x_ci0, x_ci1, x_ci2, x_ci3, x_ci4, x_ci5, x_tup, x_tup1, x_lst, x_lst1, x_ch, x_ch1, x_ch2, x_ch3, x_ch4, x_ch5, x_asgT, x_asgT1, x_nx, x_par, x_par1, x_par2, x_par3, x_par31, x_par32, x_par33, x_tn, x_t0, x_tc, x_ts, x_ts0, x_ts1, x_up1, x_up2, x_upO, x_upI, x_app, x_app0, x_app1, x_for, x_for1, x_fl1, x_fl2, x_fl3, x_fl4, x_fl5, x_fl6, x_turn, x_its, x_its1, x_its2, x_its3, x_rg1, x_rg2, x_rg21, x_en, x_en1, x_zp, x_zp1, x_zp2, x_zp3, x_st, x_st0, x_st1, x_st2, x_st3, x_yes, x_lc2, x_rA1, x_rA2, x_rF1, x_rI1, x_rI2, x_wh1, x_wh2, x_wh3, x_wh4, x_wh5, o_add, o_sub, o_neg, o_lt, o_le, o_gt, o_ge, o_eq, o_ne, o_eqB, o_neB, o_int, o_abs, o_max, o_min, o_lenL, o_lenT, o_ix0, o_ix1, o_ixl0, o_ixl1, o_ixl2, o_isi, o_isi2, o_isN, o_notN, o_isB, o_notB, x_A0, x_F0, x_I0, x_A1, x_F1, x_I1, x_A2, x_F2, x_I2, x_A3, x_F3, x_I3, x_A4, x_F4, x_I4, x_A5, x_F5, x_I5, x_A6, x_F6, x_I6, x_A7, x_F7, x_I7, x_A8, x_F8, x_I8, x_wi0, x_wi, x_re0, x_re, x_re1, x_ok0, x_ok, x_ok1, x_ok2, o_not0, x_g0, x_gS, x_s0, x_sS, x_bs, x_bn, x_ms, x_isNnone, x_isNbool, x_isNint, x_isNstr, x_isNlist, x_isNtuple, x_isNdict, x_tyintnone, x_tyintbool, x_tyintint, x_tyintstr, x_tyintlist, x_tyinttuple, x_tyintdict, x_tyboolnone, x_tyboolbool, x_tyboolint, x_tyboolstr, x_tyboollist, x_tybooltuple, x_tybooldict, x_tystrnone, x_tystrbool, x_tystrint, x_tystrstr, x_tystrlist, x_tystrtuple, x_tystrdict, x_tytupnone, x_tytupbool, x_tytupint, x_tytupstr, x_tytuplist, x_tytuptuple, x_tytupdict, x_tylstnone, x_tylstbool, x_tylstint, x_tylststr, x_tylstlist, x_tylsttuple, x_tylstdict, x_tydctnone, x_tydctbool, x_tydctint, x_tydctstr, x_tydctlist, x_tydcttuple, x_tydctdict, x_be0, x_bn0, x_be1, x_bn1, x_be2, x_bn2, x_be3, x_bn3, List.length_cons, List.length_nil, List.map_cons, List.map_nil, List.replicate, List.cons_append, List.nil_append, List.append_nil, startE, pick, List.filterMap_cons, List.filterMap_nil, Bool.or_false, Bool.false_or, Bool.or_true, Bool.true_or, Bool.and_true, Bool.true_and, Bool.and_false, Bool.false_and, Bool.not_true, Bool.not_false, Bool.not_not, decide_true, decide_false, Int.cast_ofNat_Int, Nat.reduceAdd, Nat.zero_add, Int.reduceEq, Int.reduceLT, Int.reduceLE, Int.reduceGT, Int.reduceGE, Int.reduceAdd, Int.reduceSub, Int.reduceMul, Int.reduceNeg, Int.reducePow, Int.reduceToNat]
    | false =>
      simp only [e_in_rest g f ho, hq, eO, Bool.false_eq_true, if_false, x_seq, x_seq1, x_seq2, x_seq3, x_seq4, x_seq5, x_asg, x_asg1, x_asgF, x_asgF1, x_exp, x_exp1, x_ret, x_ret1, x_retF, x_retF1, x_retN, x_skip, x_brk, x_cnt, x_if, x_if1, x_if2, x_and, x_and1, x_and2, x_or, x_or1, x_or2, x_not, x_not1, x_bool, x_bool1, x_andV, x_andV1, x_andV2, x_orV, x_orV1, x_orV2, x_notV, x_notV1, x_ifV, x_ifV1, x_ifV2, x_cE, x_nm, x_nm1, x_nm2, x_rd, x_rd1, x_rd2, x_rd3, x_ev0, x_ev, x_ev1, x_ev2, x_pk, x_pk1, x_pk2, x_pk3, x_vv0, x_vv, x_vv1, x_op, x_op1, x_op2, x_ca, x_ck, x_ci, x_ci0, x_ci1, x_ci2, x_ci3, x_ci4, x_ci5, x_tup, x_tup1, x_lst, x_lst1, x_ch, x_ch1, x_ch2, x_ch3, x_ch4, x_ch5, x_asgT, x_asgT1, x_nx, x_par, x_par1, x_par2, x_par3, x_par31, x_par32, x_par33, x_tn, x_t0, x_tc, x_ts, x_ts0, x_ts1, x_up1, x_up2, x_upO, x_upI, x_app, x_app0, x_app1, x_for, x_for1, x_fl1, x_fl2, x_fl3, x_fl4, x_fl5, x_fl6, x_turn, x_its, x_its1, x_its2, x_its3, x_rg1, x_rg2, x_rg21, x_en, x_en1, x_zp, x_zp1, x_zp2, x_zp3, x_st, x_st0, x_st1, x_st2, x_st3, x_yes, x_lc2, x_rA1, x_rA2, x_rF1, x_rI1, x_rI2, x_wh1, x_wh2, x_wh3, x_wh4, x_wh5, o_add, o_sub, o_neg, o_lt, o_le, o_gt, o_ge, o_eq, o_ne, o_eqB, o_neB, o_int, o_abs, o_max, o_min, o_lenL, o_lenT, o_ix0, o_ix1, o_ixl0, o_ixl1, o_ixl2, o_isi, o_isi2, o_isN, o_notN, o_isB, o_notB, x_A0, x_F0, x_I0, x_A1, x_F1, x_I1, x_A2, x_F2, x_I2, x_A3, x_F3, x_I3, x_A4, x_F4, x_I4, x_A5, x_F5, x_I5, x_A6, x_F6, x_I6, x_A7, x_F7, x_I7, x_A8, x_F8, x_I8, x_wi0, x_wi, x_re0, x_re, x_re1, x_ok0, x_ok, x_ok1, x_ok2, o_not0, x_g0, x_gS, x_s0, x_sS, x_bs, x_bn, x_ms, x_isNnone, x_isNbool, x_isNint, x_isNstr, x_isNlist, x_isNtuple, x_isNdict, x_tyintnone, x_tyintbool, x_tyintint, x_tyintstr, x_tyintlist, x_tyinttuple, x_tyintdict, x_tyboolnone, x_tyboolbool, x_tyboolint, x_tyboolstr, x_tyboollist, x_tybooltuple, x_tybooldict, x_tystrnone, x_tystrbool, x_tystrint, x_tystrstr, x_tystrlist, x_tystrtuple, x_tystrdict, x_tytupnone, x_tytupbool, x_tytupint, x_tytupstr, x_tytuplist, x_tytuptuple, x_tytupdict, x_tylstnone, x_tylstbool, x_tylstint, x_tylststr, x_tylstlist, x_tylsttuple, x_tylstdict, x_tydctnone, x_tydctbool, x_tydctint, x_tydctstr, x_tydctlist, x_tydcttuple, x_tydctdict, x_be0, x_bn0, x_be1, x_bn1, x_be2, x_bn2, x_be3, x_bn3, List.length_cons, List.length_nil, List.map_cons, List.map_nil, List.replicate, List.cons_append, List.nil_append, List.append_nil, startE, pick, List.filterMap_cons, List.filterMap_nil, Bool.or_false, Bool.false_or, Bool.or_true, Bool.true_or, Bool.and_true, Bool.true_and, Bool.and_false, Bool.false_and, Bool.not_true, Bool.not_false, Bool.not_not, decide_true, decide_false, Int.cast_ofNat_Int, Nat.reduceAdd, Nat.zero_add, Int.reduceEq, Int.reduceLT, Int.reduceLE, Int.reduceGT, Int.reduceGE, Int.reduceAdd, Int.reduceSub, Int.reduceMul, Int.reduceNeg, Int.reducePow, Int.reduceToNat]
  · by_cases et : t = 0
    · subst et
      refine ⟨_, ?_, isMt_comm mt_zero⟩
      cases hq : inQ f s g with
      | true =>
        simp only [es, e_in_rest f g hr, hq, eO, if_true, x_seq, x_seq1, x_seq2, x_seq3, x_seq4, x_seq5, x_asg, x_asg1, x_asgF, x_asgF1, x_exp, x_exp1, x_ret, x_ret1, x_retF, x_retF1, x_retN, x_skip, x_brk, x_cnt, x_if, x_if1, x_if2, x_and, x_and1, x_and2, x_or, x_or1, x_or2, x_not, x_not1, x_bool, x_bool1, x_andV, x_andV1, x_andV2, x_orV, x_orV1, x_orV2, x_notV, x_notV1, x_ifV, x_ifV1, x_ifV2, x_cE, x_nm, x_nm1, x_nm2, x_rd, x_rd1, x_rd2, x_rd3, x_ev0, x_ev, x_ev1, x_ev2, x_pk, x_pk1, x_pk2, x_pk3, x_vv0, x_vv, x_vv1, x_op, x_op1, x_op2, x_ca, x_ck, x_ci, x_ci0, x_ci1, x_ci2, x_ci3, x_ci4, x_ci5, x_tup, x_tup1, x_lst, x_lst1, x_ch, x_ch1, x_ch2, x_ch3, x_ch4, x_ch5, x_asgT, x_asgT1, x_nx, x_par, x_par1, x_par2, x_par3, x_par31, x_par32, x_par33, x_tn, x_t0, x_tc, x_ts, x_ts0, x_ts1, x_up1, x_up2, x_upO, x_upI, x_app, x_app0, x_app1, x_for, x_for1, x_fl1, x_fl2, x_fl3, x_fl4, x_fl5, x_fl6, x_turn, x_its, x_its1, x_its2, x_its3, x_rg1, x_rg2, x_rg21, x_en, x_en1, x_zp, x_zp1, x_zp2, x_zp3, x_st, x_st0, x_st1, x_st2, x_st3, x_yes, x_lc2, x_rA1, x_rA2, x_rF1, x_rI1, x_rI2, x_wh1, x_wh2, x_wh3, x_wh4, x_wh5, o_add, o_sub, o_neg, o_lt, o_le, o_gt, o_ge, o_eq, o_ne, o_eqB, o_neB, o_int, o_abs, o_max, o_min, o_lenL, o_lenT, o_ix0, o_ix1, o_ixl0, o_ixl1, o_ixl2, o_isi, o_isi2, o_isN, o_notN, o_isB, o_notB, x_A0, x_F0, x_I0, x_A1, x_F1, x_I1, x_A2, x_F2, x_I2, x_A3, x_F3, x_I3, x_A4, x_F4, x_I4, x_A5, x_F5, x_I5, x_A6, x_F6, x_I6, x_A7, x_F7, x_I7, x_A8, x_F8, x_I8, x_wi0, x_wi, x_re0, x_re, x_re1, x_ok0, x_ok, x_ok1, x_ok2, o_not0, x_g0, x_gS, x_s0, x_sS, x_bs, x_bn, x_ms, x_isNnone, x_isNbool, x_isNint, x_isNstr, x_isNlist, x_isNtuple, x_isNdict, x_tyintnone, x_tyintbool, x_tyintint, x_tyintstr, x_tyintlist, x_tyinttuple, x_tyintdict, x_tyboolnone, x_tyboolbool, x_tyboolint, x_tyboolstr, x_tyboollist, x_tybooltuple, x_tybooldict, x_tystrnone, x_tystrbool, x_tystrint, x_tystrstr, x_tystrlist, x_tystrtuple, x_tystrdict, x_tytupnone, x_tytupbool, x_tytupint, x_tytupstr, x_tytuplist, x_tytuptuple, x_tytupdict, x_tylstnone, x_tylstbool, x_tylstint, x_tylststr, x_tylstlist, x_tylsttuple, x_tylstdict, x_tydctnone, x_tydctbool, x_tydctint, x_tydctstr, x_tydctlist, x_tydcttuple, x_tydctdict, x_be0, x_bn0, x_be1, x_bn1, x_be2, x_bn2, x_be3, x_bn3, List.length_cons, List.length_nil, List.map_cons, List.map_nil, List.replicate, List.cons_append, List.nil_append, List.append_nil, startE, pick, List.filterMap_cons, List.filterMap_nil, Bool.or_false, Bool.false_or, Bool.or_true, Bool.true_or, Bool.and_true, Bool.true_and, Bool.and_false, Bool.false_and, Bool.not_true, Bool.not_false, Bool.not_not, decide_true, decide_false, Int.cast_ofNat_Int, Nat.reduceAdd, Nat.zero_add, Int.reduceEq, Int.reduceLT, Int.reduceLE, Int.reduceGT, Int.reduceGE, Int.reduceAdd, Int.reduceSub, Int.reduceMul, Int.reduceNeg, Int.reducePow, Int.reduceToNat]
      | false =>
        simp only [es, e_in_rest f g hr, hq, eO, Bool.false_eq_true, if_false, x_seq, x_seq1, x_seq2, x_seq3, x_seq4, x_seq5, x_asg, x_asg1, x_asgF, x_asgF1, x_exp, x_exp1, x_ret, x_ret1, x_retF, x_retF1, x_retN, x_skip, x_brk, x_cnt, x_if, x_if1, x_if2, x_and, x_and1, x_and2, x_or, x_or1, x_or2, x_not, x_not1, x_bool, x_bool1, x_andV, x_andV1, x_andV2, x_orV, x_orV1, x_orV2, x_notV, x_notV1, x_ifV, x_ifV1, x_ifV2, x_cE, x_nm, x_nm1, x_nm2, x_rd, x_rd1, x_rd2, x_rd3, x_ev0, x_ev, x_ev1, x_ev2, x_pk, x_pk1, x_pk2, x_pk3, x_vv0, x_vv, x_vv1, x_op, x_op1, x_op2, x_ca, x_ck, x_ci, x_ci0, x_ci1, x_ci2, x_ci3, x_ci4, x_ci5, x_tup, x_tup1, x_lst, x_lst1, x_ch, x_ch1, x_ch2, x_ch3, x_ch4, x_ch5, x_asgT, x_asgT1, x_nx, x_par, x_par1, x_par2, x_par3, x_par31, x_par32, x_par33, x_tn, x_t0, x_tc, x_ts, x_ts0, x_ts1, x_up1, x_up2, x_upO, x_upI, x_app, x_app0, x_app1, x_for, x_for1, x_fl1, x_fl2, x_fl3, x_fl4, x_fl5, x_fl6, x_turn, x_its, x_its1, x_its2, x_its3, x_rg1, x_rg2, x_rg21, x_en, x_en1, x_zp, x_zp1, x_zp2, x_zp3, x_st, x_st0, x_st1, x_st2, x_st3, x_yes, x_lc2, x_rA1, x_rA2, x_rF1, x_rI1, x_rI2, x_wh1, x_wh2, x_wh3, x_wh4, x_wh5, o_add, o_sub, o_neg, o_lt, o_le, o_gt, o_ge, o_eq, o_ne, o_eqB, o_neB, o_int, o_abs, o_max, o_min, o_lenL, o_lenT, o_ix0, o_ix1, o_ixl0, o_ixl1, o_ixl2, o_isi, o_isi2, o_isN, o_notN, o_isB, o_notB, x_A0, x_F0, x_I0, x_A1, x_F1, x_I1, x_A2, x_F2, x_I2, x_A3, x_F3, x_I3, x_A4, x_F4, x_I4, x_A5, x_F5, x_I5, x_A6, x_F6, x_I6, x_A7, x_F7, x_I7, x_A8, x_F8, x_I8, x_wi0, x_wi, x_re0, x_re, x_re1, x_ok0, x_ok, x_ok1, x_ok2, o_not0, x_g0, x_gS, x_s0, x_sS, x_bs, x_bn, x_ms, x_isNnone, x_isNbool, x_isNint, x_isNstr, x_isNlist, x_isNtuple, x_isNdict, x_tyintnone, x_tyintbool, x_tyintint, x_tyintstr, x_tyintlist, x_tyinttuple, x_tyintdict, x_tyboolnone, x_tyboolbool, x_tyboolint, x_tyboolstr, x_tyboollist, x_tybooltuple, x_tybooldict, x_tystrnone, x_tystrbool, x_tystrint, x_tystrstr, x_tystrlist, x_tystrtuple, x_tystrdict, x_tytupnone, x_tytupbool, x_tytupint, x_tytupstr, x_tytuplist, x_tytuptuple, x_tytupdict, x_tylstnone, x_tylstbool, x_tylstint, x_tylststr, x_tylstlist, x_tylsttuple, x_tylstdict, x_tydctnone, x_tydctbool, x_tydctint, x_tydctstr, x_tydctlist, x_tydcttuple, x_tydctdict, x_be0, x_bn0, x_be1, x_bn1, x_be2, x_bn2, x_be3, x_bn3, List.length_cons, List.length_nil, List.map_cons, List.map_nil, List.replicate, List.cons_append, List.nil_append, List.append_nil, startE, pick, List.filterMap_cons, List.filterMap_nil, Bool.or_false, Bool.false_or, Bool.or_true, Bool.true_or, Bool.and_true, Bool.true_and, Bool.and_false, Bool.false_and, Bool.not_true, Bool.not_false, Bool.not_not, decide_true, decide_false, Int.cast_ofNat_Int, Nat.reduceAdd, Nat.zero_add, Int.reduceEq, Int.reduceLT, Int.reduceLE, Int.reduceGT, Int.reduceGE, Int.reduceAdd, Int.reduceSub, Int.reduceMul, Int.reduceNeg, Int.reducePow, Int.reduceToNat]
    · have hs : 0 < s := by omega
      have ht : 0 < t := by omega
      obtain ⟨hc, hcs, hct, hone⟩ := gc_parts hs ht
      have hcm : gc s t ≤ s := Int.le_of_dvd hs hcs
      have cd : (gc s t).natAbs < divB := sm_div (show Sm (gc s t) by unfold Sm at s2 ⊢; omega)
      by_cases eg : (g - f) % gc s t = 0
      · have hg : gc s t ∣ g - f := Int.dvd_of_emod_eq_zero eg
        obtain ⟨p, hp⟩ := hct
        have e1 : t / gc s t = p := by
          have := Int.mul_ediv_cancel_left p (show gc s t ≠ 0 by omega)
          rw [← hp] at this; exact this
        have hp0 : 0 < p := by
          rcases Int.lt_trichotomy p 0 with z | z | z
          · have := Int.mul_neg_of_pos_of_neg hc z; omega
          · subst z; omega
          · exact z
        have hpt : p ≤ t := by rw [← e1]; exact Int.ediv_le_self _ ho
        rw [e1] at hone
        have sp : Sm p := by unfold Sm at s4 ⊢; omega
        have sq : ((g - f) / gc s t).natAbs < 2 ^ 4001 := Nat.lt_of_le_of_lt (div_le_abs _ hc) (sm_sub s3 s1)
        have fd1 := o_fdiv (i := t) hc cd
        have fd2 := o_fdiv (i := g - f) hc cd
        have fd3 := o_fdiv (i := s) hc cd
        rw [e1] at fd1
        have mp := o_mul (sm_mul s2) (sm_mul sp)
        have sp0 : 0 ≤ s * p := Int.mul_nonneg hr (by omega)
        by_cases e2 : p > 1
        · have m1 := Int.emod_nonneg (s / gc s t) (show p ≠ 0 by omega)
          have m2 := Int.emod_lt_of_pos (s / gc s t) hp0
          obtain ⟨i, ei, i0, i1, i2⟩ := e_turns m1 (by omega) hp0 (sm_div sp)
          rw [gc_comm (s / gc s t % p) p, gc_step, hone] at i2
          have si : i.natAbs < 2 ^ 4000 := by unfold Sm at sp; omega
          have mq := o_mul (i := (g - f) / gc s t) (j := i) (big_mul (lt_pow sq (Nat.le_refl _) (by decide))) (sm_mul si)
          have sqi : ((g - f) / gc s t * i).natAbs < 2 ^ 8001 := mul_pow sq si (by decide)
          have ms := o_mul (i := s) (j := (g - f) / gc s t * i) (sm_mul s2) (big_mul (lt_pow sqi (Nat.le_refl _) (by decide)))
          obtain ⟨k, hk⟩ := i2
          obtain ⟨l, hl⟩ := emod_dvd (s / gc s t) p
          refine ⟨_, ?_, mt_pos (u := (g - f) / gc s t * i) hs ht hc hp hcs ?_ hg ?_⟩
          · simp only [es, et, eg, e_common hr ho, o_mod hc, o_mod hp0, fd1, fd2, fd3, ei, mq, ms, mp, show (p > 1) = True from eq_true e2, e_rest_from _ sp0, eO, x_seq, x_seq1, x_seq2, x_seq3, x_seq4, x_seq5, x_asg, x_asg1, x_asgF, x_asgF1, x_exp, x_exp1, x_ret, x_ret1, x_retF, x_retF1, x_retN, x_skip, x_brk, x_cnt, x_if, x_if1, x_if2, x_and, x_and1, x_and2, x_or, x_or1, x_or2, x_not, x_not1, x_bool, x_bool1, x_andV, x_andV1, x_andV2, x_orV, x_orV1, x_orV2, x_notV, x_notV1, x_ifV, x_ifV1, x_ifV2, x_cE, x_nm, x_nm1, x_nm2, x_rd, x_rd1, x_rd2, x_rd3, x_ev0, x_ev, x_ev1, x_ev2, x_pk, x_pk1, x_pk2, x_pk3, x_vv0, x_vv, x_vv1, x_op, x_op1, x_op2, x_ca, x_ck, x_ci, x_ci0, x_ci1, x_ci2, x_ci3, x_ci4, x_ci5, x_tup, x_tup1, x_lst, x_lst1, x_ch, x_ch1, x_ch2, x_ch3, x_ch4, x_ch5, x_asgT, x_asgT1, x_nx, x_par, x_par1, x_par2, x_par3, x_par31, x_par32, x_par33, x_tn, x_t0, x_tc, x_ts, x_ts0, x_ts1, x_up1, x_up2, x_upO, x_upI, x_app, x_app0, x_app1, x_for, x_for1, x_fl1, x_fl2, x_fl3, x_fl4, x_fl5, x_fl6, x_turn, x_its, x_its1, x_its2, x_its3, x_rg1, x_rg2, x_rg21, x_en, x_en1, x_zp, x_zp1, x_zp2, x_zp3, x_st, x_st0, x_st1, x_st2, x_st3, x_yes, x_lc2, x_rA1, x_rA2, x_rF1, x_rI1, x_rI2, x_wh1, x_wh2, x_wh3, x_wh4, x_wh5, o_add, o_sub, o_neg, o_lt, o_le, o_gt, o_ge, o_eq, o_ne, o_eqB, o_neB, o_int, o_abs, o_max, o_min, o_lenL, o_lenT, o_ix0, o_ix1, o_ixl0, o_ixl1, o_ixl2, o_isi, o_isi2, o_isN, o_notN, o_isB, o_notB, x_A0, x_F0, x_I0, x_A1, x_F1, x_I1, x_A2, x_F2, x_I2, x_A3, x_F3, x_I3, x_A4, x_F4, x_I4, x_A5, x_F5, x_I5, x_A6, x_F6, x_I6, x_A7, x_F7, x_I7, x_A8, x_F8, x_I8, x_wi0, x_wi, x_re0, x_re, x_re1, x_ok0, x_ok, x_ok1, x_ok2, o_not0, x_g0, x_gS, x_s0, x_sS, x_bs, x_bn, x_ms, x_isNnone, x_isNbool, x_isNint, x_isNstr, x_isNlist, x_isNtuple, x_isNdict, x_tyintnone, x_tyintbool, x_tyintint, x_tyintstr, x_tyintlist, x_tyinttuple, x_tyintdict, x_tyboolnone, x_tyboolbool, x_tyboolint, x_tyboolstr, x_tyboollist, x_tybooltuple, x_tybooldict, x_tystrnone, x_tystrbool, x_tystrint, x_tystrstr, x_tystrlist, x_tystrtuple, x_tystrdict, x_tytupnone, x_tytupbool, x_tytupint, x_tytupstr, x_tytuplist, x_tytuptuple, x_tytupdict, x_tylstnone, x_tylstbool, x_tylstint, x_tylststr, x_tylstlist, x_tylsttuple, x_tylstdict, x_tydctnone, x_tydctbool, x_tydctint, x_tydctstr, x_tydctlist, x_tydcttuple, x_tydctdict, x_be0, x_bn0, x_be1, x_bn1, x_be2, x_bn2, x_be3, x_bn3, List.length_cons, List.length_nil, List.map_cons, List.map_nil, List.replicate, List.cons_append, List.nil_append, List.append_nil, startE, pick, List.filterMap_cons, List.filterMap_nil, Bool.or_false, Bool.false_or, Bool.or_true, Bool.true_or, Bool.and_true, Bool.true_and, Bool.and_false, Bool.false_and, Bool.not_true, Bool.not_false, Bool.not_not, decide_true, decide_false, Int.cast_ofNat_Int, Nat.reduceAdd, Nat.zero_add, Int.reduceEq, Int.reduceLT, Int.reduceLE, Int.reduceGT, Int.reduceGE, Int.reduceAdd, Int.reduceSub, Int.reduceMul, Int.reduceNeg, Int.reducePow, Int.reduceToNat]
          · exact dvd_of ((g - f) / gc s t * (k + i * l)) (by grind)
          · rintro z ⟨w, hw⟩
            exact dvd_of (i * w - z * (k + i * l)) (by grind)
        · obtain rfl : p = 1 := by omega
          have ms := o_mul (i := s) (j := 0) (sm_mul s2) (sm_mul (by decide +kernel))
          refine ⟨_, ?_, mt_pos (u := 0) hs ht hc hp hcs (Int.one_dvd _) hg fun _ _ => Int.one_dvd _⟩
          simp only [es, et, eg, e_common hr ho, o_mod hc, fd1, fd2, fd3, ms, mp, e_rest_from _ sp0, eO, x_seq, x_seq1, x_seq2, x_seq3, x_seq4, x_seq5, x_asg, x_asg1, x_asgF, x_asgF1, x_exp, x_exp1, x_ret, x_ret1, x_retF, x_retF1, x_retN, x_skip, x_brk, x_cnt, x_if, x_if1, x_if2, x_and, x_and1, x_and2, x_or, x_or1, x_or2, x_not, x_not1, x_bool, x_bool1, x_andV, x_andV1, x_andV2, x_orV, x_orV1, x_orV2, x_notV, x_notV1, x_ifV, x_ifV1, x_ifV2, x_cE, x_nm, x_nm1, x_nm2, x_rd, x_rd1, x_rd2, x_rd3, x_ev0, x_ev, x_ev1, x_ev2, x_pk, x_pk1, x_pk2, x_pk3, x_vv0, x_vv, x_vv1, x_op, x_op1, x_op2, x_ca, x_ck, x_ci, x_ci0, x_ci1, x_ci2, x_ci3, x_ci4, x_ci5, x_tup, x_tup1, x_lst, x_lst1, x_ch, x_ch1, x_ch2, x_ch3, x_ch4, x_ch5, x_asgT, x_asgT1, x_nx, x_par, x_par1, x_par2, x_par3, x_par31, x_par32, x_par33, x_tn, x_t0, x_tc, x_ts, x_ts0, x_ts1, x_up1, x_up2, x_upO, x_upI, x_app, x_app0, x_app1, x_for, x_for1, x_fl1, x_fl2, x_fl3, x_fl4, x_fl5, x_fl6, x_turn, x_its, x_its1, x_its2, x_its3, x_rg1, x_rg2, x_rg21, x_en, x_en1, x_zp, x_zp1, x_zp2, x_zp3, x_st, x_st0, x_st1, x_st2, x_st3, x_yes, x_lc2, x_rA1, x_rA2, x_rF1, x_rI1, x_rI2, x_wh1, x_wh2, x_wh3, x_wh4, x_wh5, o_add, o_sub, o_neg, o_lt, o_le, o_gt, o_ge, o_eq, o_ne, o_eqB, o_neB, o_int, o_abs, o_max, o_min, o_lenL, o_lenT, o_ix0, o_ix1, o_ixl0, o_ixl1, o_ixl2, o_isi, o_isi2, o_isN, o_notN, o_isB, o_notB, x_A0, x_F0, x_I0, x_A1, x_F1, x_I1, x_A2, x_F2, x_I2, x_A3, x_F3, x_I3, x_A4, x_F4, x_I4, x_A5, x_F5, x_I5, x_A6, x_F6, x_I6, x_A7, x_F7, x_I7, x_A8, x_F8, x_I8, x_wi0, x_wi, x_re0, x_re, x_re1, x_ok0, x_ok, x_ok1, x_ok2, o_not0, x_g0, x_gS, x_s0, x_sS, x_bs, x_bn, x_ms, x_isNnone, x_isNbool, x_isNint, x_isNstr, x_isNlist, x_isNtuple, x_isNdict, x_tyintnone, x_tyintbool, x_tyintint, x_tyintstr, x_tyintlist, x_tyinttuple, x_tyintdict, x_tyboolnone, x_tyboolbool, x_tyboolint, x_tyboolstr, x_tyboollist, x_tybooltuple, x_tybooldict, x_tystrnone, x_tystrbool, x_tystrint, x_tystrstr, x_tystrlist, x_tystrtuple, x_tystrdict, x_tytupnone, x_tytupbool, x_tytupint, x_tytupstr, x_tytuplist, x_tytuptuple, x_tytupdict, x_tylstnone, x_tylstbool, x_tylstint, x_tylststr, x_tylstlist, x_tylsttuple, x_tylstdict, x_tydctnone, x_tydctbool, x_tydctint, x_tydctstr, x_tydctlist, x_tydcttuple, x_tydctdict, x_be0, x_bn0, x_be1, x_bn1, x_be2, x_bn2, x_be3, x_bn3, List.length_cons, List.length_nil, List.map_cons, List.map_nil, List.replicate, List.cons_append, List.nil_append, List.append_nil, startE, pick, List.filterMap_cons, List.filterMap_nil, Bool.or_false, Bool.false_or, Bool.or_true, Bool.true_or, Bool.and_true, Bool.true_and, Bool.and_false, Bool.false_and, Bool.not_true, Bool.not_false, Bool.not_not, decide_true, decide_false, Int.cast_ofNat_Int, Nat.reduceAdd, Nat.zero_add, Int.reduceEq, Int.reduceLT, Int.reduceLE, Int.reduceGT, Int.reduceGE, Int.reduceAdd, Int.reduceSub, Int.reduceMul, Int.reduceNeg, Int.reducePow, Int.reduceToNat]
      · refine ⟨none, ?_, mt_none hcs hct fun z => eg (Int.emod_eq_zero_of_dvd z)⟩
        simp only [es, et, eg, e_common hr ho, o_mod hc, eO, x_seq, x_seq1, x_seq2, x_seq3, x_seq4, x_seq5, x_asg, x_asg1, x_asgF, x_asgF1, x_exp, x_exp1, x_ret, x_ret1, x_retF, x_retF1, x_retN, x_skip, x_brk, x_cnt, x_if, x_if1, x_if2, x_and, x_and1, x_and2, x_or, x_or1, x_or2, x_not, x_not1, x_bool, x_bool1, x_andV, x_andV1, x_andV2, x_orV, x_orV1, x_orV2, x_notV, x_notV1, x_ifV, x_ifV1, x_ifV2, x_cE, x_nm, x_nm1, x_nm2, x_rd, x_rd1, x_rd2, x_rd3, x_ev0, x_ev, x_ev1, x_ev2, x_pk, x_pk1, x_pk2, x_pk3, x_vv0, x_vv, x_vv1, x_op, x_op1, x_op2, x_ca, x_ck, x_ci, x_ci0, x_ci1, x_ci2, x_ci3, x_ci4, x_ci5, x_tup, x_tup1, x_lst, x_lst1, x_ch, x_ch1, x_ch2, x_ch3, x_ch4, x_ch5, x_asgT, x_asgT1, x_nx, x_par, x_par1, x_par2, x_par3, x_par31, x_par32, x_par33, x_tn, x_t0, x_tc, x_ts, x_ts0, x_ts1, x_up1, x_up2, x_upO, x_upI, x_app, x_app0, x_app1, x_for, x_for1, x_fl1, x_fl2, x_fl3, x_fl4, x_fl5, x_fl6, x_turn, x_its, x_its1, x_its2, x_its3, x_rg1, x_rg2, x_rg21, x_en, x_en1, x_zp, x_zp1, x_zp2, x_zp3, x_st, x_st0, x_st1, x_st2, x_st3, x_yes, x_lc2, x_rA1, x_rA2, x_rF1, x_rI1, x_rI2, x_wh1, x_wh2, x_wh3, x_wh4, x_wh5, o_add, o_sub, o_neg, o_lt, o_le, o_gt, o_ge, o_eq, o_ne, o_eqB, o_neB, o_int, o_abs, o_max, o_min, o_lenL, o_lenT, o_ix0, o_ix1, o_ixl0, o_ixl1, o_ixl2, o_isi, o_isi2, o_isN, o_notN, o_isB, o_notB, x_A0, x_F0, x_I0, x_A1, x_F1, x_I1, x_A2, x_F2, x_I2, x_A3, x_F3, x_I3, x_A4, x_F4, x_I4, x_A5, x_F5, x_I5, x_A6, x_F6, x_I6, x_A7, x_F7, x_I7, x_A8, x_F8, x_I8, x_wi0, x_wi, x_re0, x_re, x_re1, x_ok0, x_ok, x_ok1, x_ok2, o_not0, x_g0, x_gS, x_s0, x_sS, x_bs, x_bn, x_ms, x_isNnone, x_isNbool, x_isNint, x_isNstr, x_isNlist, x_isNtuple, x_isNdict, x_tyintnone, x_tyintbool, x_tyintint, x_tyintstr, x_tyintlist, x_tyinttuple, x_tyintdict, x_tyboolnone, x_tyboolbool, x_tyboolint, x_tyboolstr, x_tyboollist, x_tybooltuple, x_tybooldict, x_tystrnone, x_tystrbool, x_tystrint, x_tystrstr, x_tystrlist, x_tystrtuple, x_tystrdict, x_tytupnone, x_tytupbool, x_tytupint, x_tytupstr, x_tytuplist, x_tytuptuple, x_tytupdict, x_tylstnone, x_tylstbool, x_tylstint, x_tylststr, x_tylstlist, x_tylsttuple, x_tylstdict, x_tydctnone, x_tydctbool, x_tydctint, x_tydctstr, x_tydctlist, x_tydcttuple, x_tydctdict, x_be0, x_bn0, x_be1, x_bn1, x_be2, x_bn2, x_be3, x_bn3, List.length_cons, List.length_nil, List.map_cons, List.map_nil, List.replicate, List.cons_append, List.nil_append, List.append_nil, startE, pick, List.filterMap_cons, List.filterMap_nil, Bool.or_false, Bool.false_or, Bool.or_true, Bool.true_or, Bool.and_true, Bool.true_and, Bool.and_false, Bool.false_and, Bool.not_true, Bool.not_false, Bool.not_not, decide_true, decide_false, Int.cast_ofNat_Int, Nat.reduceAdd, Nat.zero_add, Int.reduceEq, Int.reduceLT, Int.reduceLE, Int.reduceGT, Int.reduceGE, Int.reduceAdd, Int.reduceSub, Int.reduceMul, Int.reduceNeg, Int.reducePow, Int.reduceToNat]
end LW

set_option maxRecDepth 20000
set_option maxHeartbeats 0
namespace LW
open PySem PySem.Spec PyProof.Rows L2 MP RT
/-! ## the law's helpers -/
def okS : Nat → D → Prop
  | _, .none => True
  | _, .bool _ => True
  | _, .int _ => True
  | _, .str x => PyData.strOk x = true
  | n + 1, .list ds => ds.length ≤ sizeLine ∧ ∀ d ∈ ds, okS n d
  | n + 1, .tuple ds => ds.length ≤ sizeLine ∧ ∀ d ∈ ds, okS n d
  | _, _ => False
theorem zip_self : ∀ ds : List D, zipL ds ds = ds.map fun d => .tuple [d, d]
  | [] => rfl
  | d :: r => by rw [zipL, zip_self r]; rfl
theorem all_trues : ∀ ds : List D, allD [.list ((ds.map fun d => PyData.tuple [d, d]).filterMap fun _ => some (.bool true))] = some (.bool true) := by
  intro ds
  have : ((ds.map fun d => PyData.tuple [d, d]).filterMap fun _ => some (PyData.bool true)) = (ds.map fun _ => true).map .bool := by
    induction ds with
    | nil => rfl
    | cons d r ih => simp only [List.map_cons, List.filterMap_cons, ih]
  rw [this]
  show (asBls _).map _ = _
  rw [asBls_map]
  show some (PyData.bool _) = _
  congr 2
  induction ds with
  | nil => rfl
  | cons d r ih => simp
theorem o_eqS {x : Str} (h : PyData.strOk x = true) : eqD [.str x, .str x] = some (.bool true) := by
  have hs : SeqAt.shaped (.str x) = true := by
    unfold SeqAt.shaped
    rw [show PyData.canLay0 (.str x) = PyData.strOk x from rfl, h]
    rfl
  show (if SeqAt.shaped (.str x) = true ∧ SeqAt.shaped (.str x) = true then some (PyData.bool (x == x)) else none) = _
  rw [if_pos ⟨hs, hs⟩, beq_self_eq_true]
theorem e_same : ∀ (n : Nat) (d : D), okS n d → sem__law_same (n + 1) [d, d] = some (.bool true) := by
  intro n
  induction n with
  | zero =>
    intro d h
    rw [sem__law_same, g__law_same]
    cases d with
    | none => simp only [x_seq, x_seq1, x_seq2, x_seq3, x_seq4, x_seq5, x_asg, x_asg1, x_asgF, x_asgF1, x_exp, x_exp1, x_ret, x_ret1, x_retF, x_retF1, x_retN, x_skip, x_brk, x_cnt, x_if, x_if1, x_if2, x_and, x_and1, x_and2, x_or, x_or1, x_or2, x_not, x_not1, x_bool, x_bool1, x_andV, x_andV1, x_andV2, x_orV, x_orV1, x_orV2, x_notV, x_notV1, x_ifV, x_ifV1, x_ifV2, x_cE, x_nm, x_nm1, x_nm2, x_rd, x_rd1, x_rd2, x_rd3, x_ev0, x_ev, x_ev1, x_ev2, x_pk, x_pk1, x_pk2, x_pk3, x_vv0, x_vv, x_vv1, x_op, x_op1, x_op2, x_ca, x_ck, x_ci, x_ci0, x_ci1, x_ci2, x_ci3, x_ci4, x_ci5, x_tup, x_tup1, x_lst, x_lst1, x_ch, x_ch1, x_ch2, x_ch3, x_ch4, x_ch5, x_asgT, x_asgT1, x_nx, x_par, x_par1, x_par2, x_par3, x_par31, x_par32, x_par33, x_tn, x_t0, x_tc, x_ts, x_ts0, x_ts1, x_up1, x_up2, x_upO, x_upI, x_app, x_app0, x_app1, x_for, x_for1, x_fl1, x_fl2, x_fl3, x_fl4, x_fl5, x_fl6, x_turn, x_its, x_its1, x_its2, x_its3, x_rg1, x_rg2, x_rg21, x_en, x_en1, x_zp, x_zp1, x_zp2, x_zp3, x_st, x_st0, x_st1, x_st2, x_st3, x_yes, x_lc2, x_rA1, x_rA2, x_rF1, x_rI1, x_rI2, x_wh1, x_wh2, x_wh3, x_wh4, x_wh5, o_add, o_sub, o_neg, o_lt, o_le, o_gt, o_ge, o_eq, o_ne, o_eqB, o_neB, o_int, o_abs, o_max, o_min, o_lenL, o_lenT, o_ix0, o_ix1, o_ixl0, o_ixl1, o_ixl2, o_isi, o_isi2, o_isN, o_notN, o_isB, o_notB, x_A0, x_F0, x_I0, x_A1, x_F1, x_I1, x_A2, x_F2, x_I2, x_A3, x_F3, x_I3, x_A4, x_F4, x_I4, x_A5, x_F5, x_I5, x_A6, x_F6, x_I6, x_A7, x_F7, x_I7, x_A8, x_F8, x_I8, x_wi0, x_wi, x_re0, x_re, x_re1, x_ok0, x_ok, x_ok1, x_ok2, o_not0, x_g0, x_gS, x_s0, x_sS, x_bs, x_bn, x_ms, x_isNnone, x_isNbool, x_isNint, x_isNstr, x_isNlist, x_isNtuple, x_isNdict, x_tyintnone, x_tyintbool, x_tyintint, x_tyintstr, x_tyintlist, x_tyinttuple, x_tyintdict, x_tyboolnone, x_tyboolbool, x_tyboolint, x_tyboolstr, x_tyboollist, x_tybooltuple, x_tybooldict, x_tystrnone, x_tystrbool, x_tystrint, x_tystrstr, x_tystrlist, x_tystrtuple, x_tystrdict, x_tytupnone, x_tytupbool, x_tytupint, x_tytupstr, x_tytuplist, x_tytuptuple, x_tytupdict, x_tylstnone, x_tylstbool, x_tylstint, x_tylststr, x_tylstlist, x_tylsttuple, x_tylstdict, x_tydctnone, x_tydctbool, x_tydctint, x_tydctstr, x_tydctlist, x_tydcttuple, x_tydctdict, x_be0, x_bn0, x_be1, x_bn1, x_be2, x_bn2, x_be3, x_bn3, List.length_cons, List.length_nil, List.map_cons, List.map_nil, List.replicate, List.cons_append, List.nil_append, List.append_nil, startE, pick, List.filterMap_cons, List.filterMap_nil, Bool.or_false, Bool.false_or, Bool.or_true, Bool.true_or, Bool.and_true, Bool.true_and, Bool.and_false, Bool.false_and, Bool.not_true, Bool.not_false, Bool.not_not, decide_true, decide_false, Int.cast_ofNat_Int, Nat.reduceAdd, Nat.zero_add, Int.reduceEq, Int.reduceLT, Int.reduceLE, Int.reduceGT, Int.reduceGE, Int.reduceAdd, Int.reduceSub, Int.reduceMul, Int.reduceNeg, Int.reducePow, Int.reduceToNat]
    | bool b => simp only [x_seq, x_seq1, x_seq2, x_seq3, x_seq4, x_seq5, x_asg, x_asg1, x_asgF, x_asgF1, x_exp, x_exp1, x_ret, x_ret1, x_retF, x_retF1, x_retN, x_skip, x_brk, x_cnt, x_if, x_if1, x_if2, x_and, x_and1, x_and2, x_or, x_or1, x_or2, x_not, x_not1, x_bool, x_bool1, x_andV, x_andV1, x_andV2, x_orV, x_orV1, x_orV2, x_notV, x_notV1, x_ifV, x_ifV1, x_ifV2, x_cE, x_nm, x_nm1, x_nm2, x_rd, x_rd1, x_rd2, x_rd3, x_ev0, x_ev, x_ev1, x_ev2, x_pk, x_pk1, x_pk2, x_pk3, x_vv0, x_vv, x_vv1, x_op, x_op1, x_op2, x_ca, x_ck, x_ci, x_ci0, x_ci1, x_ci2, x_ci3, x_ci4, x_ci5, x_tup, x_tup1, x_lst, x_lst1, x_ch, x_ch1, x_ch2, x_ch3, x_ch4, x_ch5, x_asgT, x_asgT1, x_nx, x_par, x_par1, x_par2, x_par3, x_par31, x_par32, x_par33, x_tn, x_t0, x_tc, x_ts, x_ts0, x_ts1, x_up1, x_up2, x_upO, x_upI, x_app, x_app0, x_app1, x_for, x_for1, x_fl1, x_fl2, x_fl3, x_fl4, x_fl5, x_fl6, x_turn, x_its, x_its1, x_its2, x_its3, x_rg1, x_rg2, x_rg21, x_en, x_en1, x_zp, x_zp1, x_zp2, x_zp3, x_st, x_st0, x_st1, x_st2, x_st3, x_yes, x_lc2, x_rA1, x_rA2, x_rF1, x_rI1, x_rI2, x_wh1, x_wh2, x_wh3, x_wh4, x_wh5, o_add, o_sub, o_neg, o_lt, o_le, o_gt, o_ge, o_eq, o_ne, o_eqB, o_neB, o_int, o_abs, o_max, o_min, o_lenL, o_lenT, o_ix0, o_ix1, o_ixl0, o_ixl1, o_ixl2, o_isi, o_isi2, o_isN, o_notN, o_isB, o_notB, x_A0, x_F0, x_I0, x_A1, x_F1, x_I1, x_A2, x_F2, x_I2, x_A3, x_F3, x_I3, x_A4, x_F4, x_I4, x_A5, x_F5, x_I5, x_A6, x_F6, x_I6, x_A7, x_F7, x_I7, x_A8, x_F8, x_I8, x_wi0, x_wi, x_re0, x_re, x_re1, x_ok0, x_ok, x_ok1, x_ok2, o_not0, x_g0, x_gS, x_s0, x_sS, x_bs, x_bn, x_ms, x_isNnone, x_isNbool, x_isNint, x_isNstr, x_isNlist, x_isNtuple, x_isNdict, x_tyintnone, x_tyintbool, x_tyintint, x_tyintstr, x_tyintlist, x_tyinttuple, x_tyintdict, x_tyboolnone, x_tyboolbool, x_tyboolint, x_tyboolstr, x_tyboollist, x_tybooltuple, x_tybooldict, x_tystrnone, x_tystrbool, x_tystrint, x_tystrstr, x_tystrlist, x_tystrtuple, x_tystrdict, x_tytupnone, x_tytupbool, x_tytupint, x_tytupstr, x_tytuplist, x_tytuptuple, x_tytupdict, x_tylstnone, x_tylstbool, x_tylstint, x_tylststr, x_tylstlist, x_tylsttuple, x_tylstdict, x_tydctnone, x_tydctbool, x_tydctint, x_tydctstr, x_tydctlist, x_tydcttuple, x_tydctdict, x_be0, x_bn0, x_be1, x_bn1, x_be2, x_bn2, x_be3, x_bn3, List.length_cons, List.length_nil, List.map_cons, List.map_nil, List.replicate, List.cons_append, List.nil_append, List.append_nil, startE, pick, List.filterMap_cons, List.filterMap_nil, Bool.or_false, Bool.false_or, Bool.or_true, Bool.true_or, Bool.and_true, Bool.true_and, Bool.and_false, Bool.false_and, Bool.not_true, Bool.not_false, Bool.not_not, decide_true, decide_false, Int.cast_ofNat_Int, Nat.reduceAdd, Nat.zero_add, Int.reduceEq, Int.reduceLT, Int.reduceLE, Int.reduceGT, Int.reduceGE, Int.reduceAdd, Int.reduceSub, Int.reduceMul, Int.reduceNeg, Int.reducePow, Int.reduceToNat]
    | int i => simp only [x_seq, x_seq1, x_seq2, x_seq3, x_seq4, x_seq5, x_asg, x_asg1, x_asgF, x_asgF1, x_exp, x_exp1, x_ret, x_ret1, x_retF, x_retF1, x_retN, x_skip, x_brk, x_cnt, x_if, x_if1, x_if2, x_and, x_and1, x_and2, x_or, x_or1, x_or2, x_not, x_not1, x_bool, x_bool1, x_andV, x_andV1, x_andV2, x_orV, x_orV1, x_orV2, x_notV, x_notV1, x_ifV, x_ifV1, x_ifV2, x_cE, x_nm, x_nm1, x_nm2, x_rd, x_rd1, x_rd2, x_rd3, x_ev0, x_ev, x_ev1, x_ev2, x_pk, x_pk1, x_pk2, x_pk3, x_vv0, x_vv, x_vv1, x_op, x_op1, x_op2, x_ca, x_ck, x_ci, x_ci0, x_ci1, x_ci2, x_ci3, x_ci4, x_ci5, x_tup, x_tup1, x_lst, x_lst1, x_ch, x_ch1, x_ch2, x_ch3, x_ch4, x_ch5, x_asgT, x_asgT1, x_nx, x_par, x_par1, x_par2, x_par3, x_par31, x_par32, x_par33, x_tn, x_t0, x_tc, x_ts, x_ts0, x_ts1, x_up1, x_up2, x_upO, x_upI, x_app, x_app0, x_app1, x_for, x_for1, x_fl1, x_fl2, x_fl3, x_fl4, x_fl5, x_fl6, x_turn, x_its, x_its1, x_its2, x_its3, x_rg1, x_rg2, x_rg21, x_en, x_en1, x_zp, x_zp1, x_zp2, x_zp3, x_st, x_st0, x_st1, x_st2, x_st3, x_yes, x_lc2, x_rA1, x_rA2, x_rF1, x_rI1, x_rI2, x_wh1, x_wh2, x_wh3, x_wh4, x_wh5, o_add, o_sub, o_neg, o_lt, o_le, o_gt, o_ge, o_eq, o_ne, o_eqB, o_neB, o_int, o_abs, o_max, o_min, o_lenL, o_lenT, o_ix0, o_ix1, o_ixl0, o_ixl1, o_ixl2, o_isi, o_isi2, o_isN, o_notN, o_isB, o_notB, x_A0, x_F0, x_I0, x_A1, x_F1, x_I1, x_A2, x_F2, x_I2, x_A3, x_F3, x_I3, x_A4, x_F4, x_I4, x_A5, x_F5, x_I5, x_A6, x_F6, x_I6, x_A7, x_F7, x_I7, x_A8, x_F8, x_I8, x_wi0, x_wi, x_re0, x_re, x_re1, x_ok0, x_ok, x_ok1, x_ok2, o_not0, x_g0, x_gS, x_s0, x_sS, x_bs, x_bn, x_ms, x_isNnone, x_isNbool, x_isNint, x_isNstr, x_isNlist, x_isNtuple, x_isNdict, x_tyintnone, x_tyintbool, x_tyintint, x_tyintstr, x_tyintlist, x_tyinttuple, x_tyintdict, x_tyboolnone, x_tyboolbool, x_tyboolint, x_tyboolstr, x_tyboollist, x_tybooltuple, x_tybooldict, x_tystrnone, x_tystrbool, x_tystrint, x_tystrstr, x_tystrlist, x_tystrtuple, x_tystrdict, x_tytupnone, x_tytupbool, x_tytupint, x_tytupstr, x_tytuplist, x_tytuptuple, x_tytupdict, x_tylstnone, x_tylstbool, x_tylstint, x_tylststr, x_tylstlist, x_tylsttuple, x_tylstdict, x_tydctnone, x_tydctbool, x_tydctint, x_tydctstr, x_tydctlist, x_tydcttuple, x_tydctdict, x_be0, x_bn0, x_be1, x_bn1, x_be2, x_bn2, x_be3, x_bn3, List.length_cons, List.length_nil, List.map_cons, List.map_nil, List.replicate, List.cons_append, List.nil_append, List.append_nil, startE, pick, List.filterMap_cons, List.filterMap_nil, Bool.or_false, Bool.false_or, Bool.or_true, Bool.true_or, Bool.and_true, Bool.true_and, Bool.and_false, Bool.false_and, Bool.not_true, Bool.not_false, Bool.not_not, decide_true, decide_false, Int.cast_ofNat_Int, Nat.reduceAdd, Nat.zero_add, Int.reduceEq, Int.reduceLT, Int.reduceLE, Int.reduceGT, Int.reduceGE, Int.reduceAdd, Int.reduceSub, Int.reduceMul, Int.reduceNeg, Int.reducePow, Int.reduceToNat]
    | str x => simp only [o_eqS h, x_seq, x_seq1, x_seq2, x_seq3, x_seq4, x_seq5, x_asg, x_asg1, x_asgF, x_asgF1, x_exp, x_exp1, x_ret, x_ret1, x_retF, x_retF1, x_retN, x_skip, x_brk, x_cnt, x_if, x_if1, x_if2, x_and, x_and1, x_and2, x_or, x_or1, x_or2, x_not, x_not1, x_bool, x_bool1, x_andV, x_andV1, x_andV2, x_orV, x_orV1, x_orV2, x_notV, x_notV1, x_ifV, x_ifV1, x_ifV2, x_cE, x_nm, x_nm1, x_nm2, x_rd, x_rd1, x_rd2, x_rd3, x_ev0, x_ev, x_ev1, x_ev2, x_pk, x_pk1, x_pk2, x_pk3, x_vv0, x_vv, x_vv1, x_op, x_op1, x_op2, x_ca, x_ck, x_ci, x_ci0, x_ci1, x_ci2, x_ci3, x_ci4, x_ci5, x_tup, x_tup1, x_lst, x_lst1, x_ch, x_ch1, x_ch2, x_ch3, x_ch4, x_ch5, x_asgT, x_asgT1, x_nx, x_par, x_par1, x_par2, x_par3, x_par31, x_par32, x_par33, x_tn, x_t0, x_tc, x_ts, x_ts0, x_ts1, x_up1, x_up2, x_upO, x_upI, x_app, x_app0, x_app1, x_for, x_for1, x_fl1, x_fl2, x_fl3, x_fl4, x_fl5, x_fl6, x_turn, x_its, x_its1, x_its2, x_its3, x_rg1, x_rg2, x_rg21, x_en, x_en1, x_zp, x_zp1, x_zp2, x_zp3, x_st, x_st0, x_st1, x_st2, x_st3, x_yes, x_lc2, x_rA1, x_rA2, x_rF1, x_rI1, x_rI2, x_wh1, x_wh2, x_wh3, x_wh4, x_wh5, o_add, o_sub, o_neg, o_lt, o_le, o_gt, o_ge, o_eq, o_ne, o_eqB, o_neB, o_int, o_abs, o_max, o_min, o_lenL, o_lenT, o_ix0, o_ix1, o_ixl0, o_ixl1, o_ixl2, o_isi, o_isi2, o_isN, o_notN, o_isB, o_notB, x_A0, x_F0, x_I0, x_A1, x_F1, x_I1, x_A2, x_F2, x_I2, x_A3, x_F3, x_I3, x_A4, x_F4, x_I4, x_A5, x_F5, x_I5, x_A6, x_F6, x_I6, x_A7, x_F7, x_I7, x_A8, x_F8, x_I8, x_wi0, x_wi, x_re0, x_re, x_re1, x_ok0, x_ok, x_ok1, x_ok2, o_not0, x_g0, x_gS, x_s0, x_sS, x_bs, x_bn, x_ms, x_isNnone, x_isNbool, x_isNint, x_isNstr, x_isNlist, x_isNtuple, x_isNdict, x_tyintnone, x_tyintbool, x_tyintint, x_tyintstr, x_tyintlist, x_tyinttuple, x_tyintdict, x_tyboolnone, x_tyboolbool, x_tyboolint, x_tyboolstr, x_tyboollist, x_tybooltuple, x_tybooldict, x_tystrnone, x_tystrbool, x_tystrint, x_tystrstr, x_tystrlist, x_tystrtuple, x_tystrdict, x_tytupnone, x_tytupbool, x_tytupint, x_tytupstr, x_tytuplist, x_tytuptuple, x_tytupdict, x_tylstnone, x_tylstbool, x_tylstint, x_tylststr, x_tylstlist, x_tylsttuple, x_tylstdict, x_tydctnone, x_tydctbool, x_tydctint, x_tydctstr, x_tydctlist, x_tydcttuple, x_tydctdict, x_be0, x_bn0, x_be1, x_bn1, x_be2, x_bn2, x_be3, x_bn3, List.length_cons, List.length_nil, List.map_cons, List.map_nil, List.replicate, List.cons_append, List.nil_append, List.append_nil, startE, pick, List.filterMap_cons, List.filterMap_nil, Bool.or_false, Bool.false_or, Bool.or_true, Bool.true_or, Bool.and_true, Bool.true_and, Bool.and_false, Bool.false_and, Bool.not_true, Bool.not_false, Bool.not_not, decide_true, decide_false, Int.cast_ofNat_Int, Nat.reduceAdd, Nat.zero_add, Int.reduceEq, Int.reduceLT, Int.reduceLE, Int.reduceGT, Int.reduceGE, Int.reduceAdd, Int.reduceSub, Int.reduceMul, Int.reduceNeg, Int.reducePow, Int.reduceToNat]
    | list ds => cases h
    | tuple ds => cases h
    | dict ds => cases h
  | succ n ih =>
    intro d h
    rw [sem__law_same, g__law_same]
    have key : ∀ (ds : List D) (v : D), (∀ d ∈ ds, okS n d) → compL (tgTup 2 (tgCons (tgName 2) (tgCons (tgName 3) tgNil))) yesT (ce__law_same_1 (sem__law_same (n + 1))) [2, 3] (zipL ds ds) [.sh v, .sh v, .no, .no] = some ((ds.map fun d => PyData.tuple [d, d]).filterMap fun _ => some (.bool true), [.sh v, .sh v, .no, .no]) := by
      intro ds v h
      rw [zip_self]
      refine compL_pure fun d hd => ?_
      obtain ⟨e, he, rfl⟩ := List.mem_map.mp hd
      rw [ce__law_same_1]
      simp only [x_tt _ _ _ _ (show [e, e].length = 2 from rfl), ih e (h e he), x_seq, x_seq1, x_seq2, x_seq3, x_seq4, x_seq5, x_asg, x_asg1, x_asgF, x_asgF1, x_exp, x_exp1, x_ret, x_ret1, x_retF, x_retF1, x_retN, x_skip, x_brk, x_cnt, x_if, x_if1, x_if2, x_and, x_and1, x_and2, x_or, x_or1, x_or2, x_not, x_not1, x_bool, x_bool1, x_andV, x_andV1, x_andV2, x_orV, x_orV1, x_orV2, x_notV, x_notV1, x_ifV, x_ifV1, x_ifV2, x_cE, x_nm, x_nm1, x_nm2, x_rd, x_rd1, x_rd2, x_rd3, x_ev0, x_ev, x_ev1, x_ev2, x_pk, x_pk1, x_pk2, x_pk3, x_vv0, x_vv, x_vv1, x_op, x_op1, x_op2, x_ca, x_ck, x_ci, x_ci0, x_ci1, x_ci2, x_ci3, x_ci4, x_ci5, x_tup, x_tup1, x_lst, x_lst1, x_ch, x_ch1, x_ch2, x_ch3, x_ch4, x_ch5, x_asgT, x_asgT1, x_nx, x_par, x_par1, x_par2, x_par3, x_par31, x_par32, x_par33, x_tn, x_t0, x_tc, x_ts, x_ts0, x_ts1, x_up1, x_up2, x_upO, x_upI, x_app, x_app0, x_app1, x_for, x_for1, x_fl1, x_fl2, x_fl3, x_fl4, x_fl5, x_fl6, x_turn, x_its, x_its1, x_its2, x_its3, x_rg1, x_rg2, x_rg21, x_en, x_en1, x_zp, x_zp1, x_zp2, x_zp3, x_st, x_st0, x_st1, x_st2, x_st3, x_yes, x_lc2, x_rA1, x_rA2, x_rF1, x_rI1, x_rI2, x_wh1, x_wh2, x_wh3, x_wh4, x_wh5, o_add, o_sub, o_neg, o_lt, o_le, o_gt, o_ge, o_eq, o_ne, o_eqB, o_neB, o_int, o_abs, o_max, o_min, o_lenL, o_lenT, o_ix0, o_ix1, o_ixl0, o_ixl1, o_ixl2, o_isi, o_isi2, o_isN, o_notN, o_isB, o_notB, x_A0, x_F0, x_I0, x_A1, x_F1, x_I1, x_A2, x_F2, x_I2, x_A3, x_F3, x_I3, x_A4, x_F4, x_I4, x_A5, x_F5, x_I5, x_A6, x_F6, x_I6, x_A7, x_F7, x_I7, x_A8, x_F8, x_I8, x_wi0, x_wi, x_re0, x_re, x_re1, x_ok0, x_ok, x_ok1, x_ok2, o_not0, x_g0, x_gS, x_s0, x_sS, x_bs, x_bn, x_ms, x_isNnone, x_isNbool, x_isNint, x_isNstr, x_isNlist, x_isNtuple, x_isNdict, x_tyintnone, x_tyintbool, x_tyintint, x_tyintstr, x_tyintlist, x_tyinttuple, x_tyintdict, x_tyboolnone, x_tyboolbool, x_tyboolint, x_tyboolstr, x_tyboollist, x_tybooltuple, x_tybooldict, x_tystrnone, x_tystrbool, x_tystrint, x_tystrstr, x_tystrlist, x_tystrtuple, x_tystrdict, x_tytupnone, x_tytupbool, x_tytupint, x_tytupstr, x_tytuplist, x_tytuptuple, x_tytupdict, x_tylstnone, x_tylstbool, x_tylstint, x_tylststr, x_tylstlist, x_tylsttuple, x_tylstdict, x_tydctnone, x_tydctbool, x_tydctint, x_tydctstr, x_tydctlist, x_tydcttuple, x_tydctdict, x_be0, x_bn0, x_be1, x_bn1, x_be2, x_bn2, x_be3, x_bn3, List.length_cons, List.length_nil, List.map_cons, List.map_nil, List.replicate, List.cons_append, List.nil_append, List.append_nil, startE, pick, List.filterMap_cons, List.filterMap_nil, Bool.or_false, Bool.false_or, Bool.or_true, Bool.true_or, Bool.and_true, Bool.true_and, Bool.and_false, Bool.false_and, Bool.not_true, Bool.not_false, Bool.not_not, decide_true, decide_false, Int.cast_ofNat_Int, Nat.reduceAdd, Nat.zero_add, Int.reduceEq, Int.reduceLT, Int.reduceLE, Int.reduceGT, Int.reduceGE, Int.reduceAdd, Int.reduceSub, Int.reduceMul, Int.reduceNeg, Int.reducePow, Int.reduceToNat]
    cases d with
    | none => simp only [x_seq, x_seq1, x_seq2, x_seq3, x_seq4, x_seq5, x_asg, x_asg1, x_asgF, x_asgF1, x_exp, x_exp1, x_ret, x_ret1, x_retF, x_retF1, x_retN, x_skip, x_brk, x_cnt, x_if, x_if1, x_if2, x_and, x_and1, x_and2, x_or, x_or1, x_or2, x_not, x_not1, x_bool, x_bool1, x_andV, x_andV1, x_andV2, x_orV, x_orV1, x_orV2, x_notV, x_notV1, x_ifV, x_ifV1, x_ifV2, x_cE, x_nm, x_nm1, x_nm2, x_rd, x_rd1, x_rd2, x_rd3, x_ev0, x_ev, x_ev1, x_ev2, x_pk, x_pk1, x_pk2, x_pk3, x_vv0, x_vv, x_vv1, x_op, x_op1, x_op2, x_ca, x_ck, x_ci, x_ci0, x_ci1, x_ci2, x_ci3, x_ci4, x_ci5, x_tup, x_tup1, x_lst, x_lst1, x_ch, x_ch1, x_ch2, x_ch3, x_ch4, x_ch5, x_asgT, x_asgT1, x_nx, x_par, x_par1, x_par2, x_par3, x_par31, x_par32, x_par33, x_tn, x_t0, x_tc, x_ts, x_ts0, x_ts1, x_up1, x_up2, x_upO, x_upI, x_app, x_app0, x_app1, x_for, x_for1, x_fl1, x_fl2, x_fl3, x_fl4, x_fl5, x_fl6, x_turn, x_its, x_its1, x_its2, x_its3, x_rg1, x_rg2, x_rg21, x_en, x_en1, x_zp, x_zp1, x_zp2, x_zp3, x_st, x_st0, x_st1, x_st2, x_st3, x_yes, x_lc2, x_rA1, x_rA2, x_rF1, x_rI1, x_rI2, x_wh1, x_wh2, x_wh3, x_wh4, x_wh5, o_add, o_sub, o_neg, o_lt, o_le, o_gt, o_ge, o_eq, o_ne, o_eqB, o_neB, o_int, o_abs, o_max, o_min, o_lenL, o_lenT, o_ix0, o_ix1, o_ixl0, o_ixl1, o_ixl2, o_isi, o_isi2, o_isN, o_notN, o_isB, o_notB, x_A0, x_F0, x_I0, x_A1, x_F1, x_I1, x_A2, x_F2, x_I2, x_A3, x_F3, x_I3, x_A4, x_F4, x_I4, x_A5, x_F5, x_I5, x_A6, x_F6, x_I6, x_A7, x_F7, x_I7, x_A8, x_F8, x_I8, x_wi0, x_wi, x_re0, x_re, x_re1, x_ok0, x_ok, x_ok1, x_ok2, o_not0, x_g0, x_gS, x_s0, x_sS, x_bs, x_bn, x_ms, x_isNnone, x_isNbool, x_isNint, x_isNstr, x_isNlist, x_isNtuple, x_isNdict, x_tyintnone, x_tyintbool, x_tyintint, x_tyintstr, x_tyintlist, x_tyinttuple, x_tyintdict, x_tyboolnone, x_tyboolbool, x_tyboolint, x_tyboolstr, x_tyboollist, x_tybooltuple, x_tybooldict, x_tystrnone, x_tystrbool, x_tystrint, x_tystrstr, x_tystrlist, x_tystrtuple, x_tystrdict, x_tytupnone, x_tytupbool, x_tytupint, x_tytupstr, x_tytuplist, x_tytuptuple, x_tytupdict, x_tylstnone, x_tylstbool, x_tylstint, x_tylststr, x_tylstlist, x_tylsttuple, x_tylstdict, x_tydctnone, x_tydctbool, x_tydctint, x_tydctstr, x_tydctlist, x_tydcttuple, x_tydctdict, x_be0, x_bn0, x_be1, x_bn1, x_be2, x_bn2, x_be3, x_bn3, List.length_cons, List.length_nil, List.map_cons, List.map_nil, List.replicate, List.cons_append, List.nil_append, List.append_nil, startE, pick, List.filterMap_cons, List.filterMap_nil, Bool.or_false, Bool.false_or, Bool.or_true, Bool.true_or, Bool.and_true, Bool.true_and, Bool.and_false, Bool.false_and, Bool.not_true, Bool.not_false, Bool.not_not, decide_true, decide_false, Int.cast_ofNat_Int, Nat.reduceAdd, Nat.zero_add, Int.reduceEq, Int.reduceLT, Int.reduceLE, Int.reduceGT, Int.reduceGE, Int.reduceAdd, Int.reduceSub, Int.reduceMul, Int.reduceNeg, Int.reducePow, Int.reduceToNat]
    | bool b => simp only [x_seq, x_seq1, x_seq2, x_seq3, x_seq4, x_seq5, x_asg, x_asg1, x_asgF, x_asgF1, x_exp, x_exp1, x_ret, x_ret1, x_retF, x_retF1, x_retN, x_skip, x_brk, x_cnt, x_if, x_if1, x_if2, x_and, x_and1, x_and2, x_or, x_or1, x_or2, x_not, x_not1, x_bool, x_bool1, x_andV, x_andV1, x_andV2, x_orV, x_orV1, x_orV2, x_notV, x_notV1, x_ifV, x_ifV1, x_ifV2, x_cE, x_nm, x_nm1, x_nm2, x_rd, x_rd1, x_rd2, x_rd3, x_ev0, x_ev, x_ev1, x_ev2, x_pk, x_pk1, x_pk2, x_pk3, x_vv0, x_vv, x_vv1, x_op, x_op1, x_op2, x_ca, x_ck, x_ci, x_ci0, x_ci1, x_ci2, x_ci3, x_ci4, x_ci5, x_tup, x_tup1, x_lst, x_lst1, x_ch, x_ch1, x_ch2, x_ch3, x_ch4, x_ch5, x_asgT, x_asgT1, x_nx, x_par, x_par1, x_par2, x_par3, x_par31, x_par32, x_par33, x_tn, x_t0, x_tc, x_ts, x_ts0, x_ts1, x_up1, x_up2, x_upO, x_upI, x_app, x_app0, x_app1, x_for, x_for1, x_fl1, x_fl2, x_fl3, x_fl4, x_fl5, x_fl6, x_turn, x_its, x_its1, x_its2, x_its3, x_rg1, x_rg2, x_rg21, x_en, x_en1, x_zp, x_zp1, x_zp2, x_zp3, x_st, x_st0, x_st1, x_st2, x_st3, x_yes, x_lc2, x_rA1, x_rA2, x_rF1, x_rI1, x_rI2, x_wh1, x_wh2, x_wh3, x_wh4, x_wh5, o_add, o_sub, o_neg, o_lt, o_le, o_gt, o_ge, o_eq, o_ne, o_eqB, o_neB, o_int, o_abs, o_max, o_min, o_lenL, o_lenT, o_ix0, o_ix1, o_ixl0, o_ixl1, o_ixl2, o_isi, o_isi2, o_isN, o_notN, o_isB, o_notB, x_A0, x_F0, x_I0, x_A1, x_F1, x_I1, x_A2, x_F2, x_I2, x_A3, x_F3, x_I3, x_A4, x_F4, x_I4, x_A5, x_F5, x_I5, x_A6, x_F6, x_I6, x_A7, x_F7, x_I7, x_A8, x_F8, x_I8, x_wi0, x_wi, x_re0, x_re, x_re1, x_ok0, x_ok, x_ok1, x_ok2, o_not0, x_g0, x_gS, x_s0, x_sS, x_bs, x_bn, x_ms, x_isNnone, x_isNbool, x_isNint, x_isNstr, x_isNlist, x_isNtuple, x_isNdict, x_tyintnone, x_tyintbool, x_tyintint, x_tyintstr, x_tyintlist, x_tyinttuple, x_tyintdict, x_tyboolnone, x_tyboolbool, x_tyboolint, x_tyboolstr, x_tyboollist, x_tybooltuple, x_tybooldict, x_tystrnone, x_tystrbool, x_tystrint, x_tystrstr, x_tystrlist, x_tystrtuple, x_tystrdict, x_tytupnone, x_tytupbool, x_tytupint, x_tytupstr, x_tytuplist, x_tytuptuple, x_tytupdict, x_tylstnone, x_tylstbool, x_tylstint, x_tylststr, x_tylstlist, x_tylsttuple, x_tylstdict, x_tydctnone, x_tydctbool, x_tydctint, x_tydctstr, x_tydctlist, x_tydcttuple, x_tydctdict, x_be0, x_bn0, x_be1, x_bn1, x_be2, x_bn2, x_be3, x_bn3, List.length_cons, List.length_nil, List.map_cons, List.map_nil, List.replicate, List.cons_append, List.nil_append, List.append_nil, startE, pick, List.filterMap_cons, List.filterMap_nil, Bool.or_false, Bool.false_or, Bool.or_true, Bool.true_or, Bool.and_true, Bool.true_and, Bool.and_false, Bool.false_and, Bool.not_true, Bool.not_false, Bool.not_not, decide_true, decide_false, Int.cast_ofNat_Int, Nat.reduceAdd, Nat.zero_add, Int.reduceEq, Int.reduceLT, Int.reduceLE, Int.reduceGT, Int.reduceGE, Int.reduceAdd, Int.reduceSub, Int.reduceMul, Int.reduceNeg, Int.reducePow, Int.reduceToNat]
    | int i => simp only [x_seq, x_seq1, x_seq2, x_seq3, x_seq4, x_seq5, x_asg, x_asg1, x_asgF, x_asgF1, x_exp, x_exp1, x_ret, x_ret1, x_retF, x_retF1, x_retN, x_skip, x_brk, x_cnt, x_if, x_if1, x_if2, x_and, x_and1, x_and2, x_or, x_or1, x_or2, x_not, x_not1, x_bool, x_bool1, x_andV, x_andV1, x_andV2, x_orV, x_orV1, x_orV2, x_notV, x_notV1, x_ifV, x_ifV1, x_ifV2, x_cE, x_nm, x_nm1, x_nm2, x_rd, x_rd1, x_rd2, x_rd3, x_ev0, x_ev, x_ev1, x_ev2, x_pk, x_pk1, x_pk2, x_pk3, x_vv0, x_vv, x_vv1, x_op, x_op1, x_op2, x_ca, x_ck, x_ci, x_ci0, x_ci1, x_ci2, x_ci3, x_ci4, x_ci5, x_tup, x_tup1, x_lst, x_lst1, x_ch, x_ch1, x_ch2, x_ch3, x_ch4, x_ch5, x_asgT, x_asgT1, x_nx, x_par, x_par1, x_par2, x_par3, x_par31, x_par32, x_par33, x_tn, x_t0, x_tc, x_ts, x_ts0, x_ts1, x_up1, x_up2, x_upO, x_upI, x_app, x_app0, x_app1, x_for, x_for1, x_fl1, x_fl2, x_fl3, x_fl4, x_fl5, x_fl6, x_turn, x_its, x_its1, x_its2, x_its3, x_rg1, x_rg2, x_rg21, x_en, x_en1, x_zp, x_zp1, x_zp2, x_zp3, x_st, x_st0, x_st1, x_st2, x_st3, x_yes, x_lc2, x_rA1, x_rA2, x_rF1, x_rI1, x_rI2, x_wh1, x_wh2, x_wh3, x_wh4, x_wh5, o_add, o_sub, o_neg, o_lt, o_le, o_gt, o_ge, o_eq, o_ne, o_eqB, o_neB, o_int, o_abs, o_max, o_min, o_lenL, o_lenT, o_ix0, o_ix1, o_ixl0, o_ixl1, o_ixl2, o_isi, o_isi2, o_isN, o_notN, o_isB, o_notB, x_A0, x_F0, x_I0, x_A1, x_F1, x_I1, x_A2, x_F2, x_I2, x_A3, x_F3, x_I3, x_A4, x_F4, x_I4, x_A5, x_F5, x_I5, x_A6, x_F6, x_I6, x_A7, x_F7, x_I7, x_A8, x_F8, x_I8, x_wi0, x_wi, x_re0, x_re, x_re1, x_ok0, x_ok, x_ok1, x_ok2, o_not0, x_g0, x_gS, x_s0, x_sS, x_bs, x_bn, x_ms, x_isNnone, x_isNbool, x_isNint, x_isNstr, x_isNlist, x_isNtuple, x_isNdict, x_tyintnone, x_tyintbool, x_tyintint, x_tyintstr, x_tyintlist, x_tyinttuple, x_tyintdict, x_tyboolnone, x_tyboolbool, x_tyboolint, x_tyboolstr, x_tyboollist, x_tybooltuple, x_tybooldict, x_tystrnone, x_tystrbool, x_tystrint, x_tystrstr, x_tystrlist, x_tystrtuple, x_tystrdict, x_tytupnone, x_tytupbool, x_tytupint, x_tytupstr, x_tytuplist, x_tytuptuple, x_tytupdict, x_tylstnone, x_tylstbool, x_tylstint, x_tylststr, x_tylstlist, x_tylsttuple, x_tylstdict, x_tydctnone, x_tydctbool, x_tydctint, x_tydctstr, x_tydctlist, x_tydcttuple, x_tydctdict, x_be0, x_bn0, x_be1, x_bn1, x_be2, x_bn2, x_be3, x_bn3, List.length_cons, List.length_nil, List.map_cons, List.map_nil, List.replicate, List.cons_append, List.nil_append, List.append_nil, startE, pick, List.filterMap_cons, List.filterMap_nil, Bool.or_false, Bool.false_or, Bool.or_true, Bool.true_or, Bool.and_true, Bool.true_and, Bool.and_false, Bool.false_and, Bool.not_true, Bool.not_false, Bool.not_not, decide_true, decide_false, Int.cast_ofNat_Int, Nat.reduceAdd, Nat.zero_add, Int.reduceEq, Int.reduceLT, Int.reduceLE, Int.reduceGT, Int.reduceGE, Int.reduceAdd, Int.reduceSub, Int.reduceMul, Int.reduceNeg, Int.reducePow, Int.reduceToNat]
    | str x => simp only [o_eqS h, x_seq, x_seq1, x_seq2, x_seq3, x_seq4, x_seq5, x_asg, x_asg1, x_asgF, x_asgF1, x_exp, x_exp1, x_ret, x_ret1, x_retF, x_retF1, x_retN, x_skip, x_brk, x_cnt, x_if, x_if1, x_if2, x_and, x_and1, x_and2, x_or, x_or1, x_or2, x_not, x_not1, x_bool, x_bool1, x_andV, x_andV1, x_andV2, x_orV, x_orV1, x_orV2, x_notV, x_notV1, x_ifV, x_ifV1, x_ifV2, x_cE, x_nm, x_nm1, x_nm2, x_rd, x_rd1, x_rd2, x_rd3, x_ev0, x_ev, x_ev1, x_ev2, x_pk, x_pk1, x_pk2, x_pk3, x_vv0, x_vv, x_vv1, x_op, x_op1, x_op2, x_ca, x_ck, x_ci, x_ci0, x_ci1, x_ci2, x_ci3, x_ci4, x_ci5, x_tup, x_tup1, x_lst, x_lst1, x_ch, x_ch1, x_ch2, x_ch3, x_ch4, x_ch5, x_asgT, x_asgT1, x_nx, x_par, x_par1, x_par2, x_par3, x_par31, x_par32, x_par33, x_tn, x_t0, x_tc, x_ts, x_ts0, x_ts1, x_up1, x_up2, x_upO, x_upI, x_app, x_app0, x_app1, x_for, x_for1, x_fl1, x_fl2, x_fl3, x_fl4, x_fl5, x_fl6, x_turn, x_its, x_its1, x_its2, x_its3, x_rg1, x_rg2, x_rg21, x_en, x_en1, x_zp, x_zp1, x_zp2, x_zp3, x_st, x_st0, x_st1, x_st2, x_st3, x_yes, x_lc2, x_rA1, x_rA2, x_rF1, x_rI1, x_rI2, x_wh1, x_wh2, x_wh3, x_wh4, x_wh5, o_add, o_sub, o_neg, o_lt, o_le, o_gt, o_ge, o_eq, o_ne, o_eqB, o_neB, o_int, o_abs, o_max, o_min, o_lenL, o_lenT, o_ix0, o_ix1, o_ixl0, o_ixl1, o_ixl2, o_isi, o_isi2, o_isN, o_notN, o_isB, o_notB, x_A0, x_F0, x_I0, x_A1, x_F1, x_I1, x_A2, x_F2, x_I2, x_A3, x_F3, x_I3, x_A4, x_F4, x_I4, x_A5, x_F5, x_I5, x_A6, x_F6, x_I6, x_A7, x_F7, x_I7, x_A8, x_F8, x_I8, x_wi0, x_wi, x_re0, x_re, x_re1, x_ok0, x_ok, x_ok1, x_ok2, o_not0, x_g0, x_gS, x_s0, x_sS, x_bs, x_bn, x_ms, x_isNnone, x_isNbool, x_isNint, x_isNstr, x_isNlist, x_isNtuple, x_isNdict, x_tyintnone, x_tyintbool, x_tyintint, x_tyintstr, x_tyintlist, x_tyinttuple, x_tyintdict, x_tyboolnone, x_tyboolbool, x_tyboolint, x_tyboolstr, x_tyboollist, x_tybooltuple, x_tybooldict, x_tystrnone, x_tystrbool, x_tystrint, x_tystrstr, x_tystrlist, x_tystrtuple, x_tystrdict, x_tytupnone, x_tytupbool, x_tytupint, x_tytupstr, x_tytuplist, x_tytuptuple, x_tytupdict, x_tylstnone, x_tylstbool, x_tylstint, x_tylststr, x_tylstlist, x_tylsttuple, x_tylstdict, x_tydctnone, x_tydctbool, x_tydctint, x_tydctstr, x_tydctlist, x_tydcttuple, x_tydctdict, x_be0, x_bn0, x_be1, x_bn1, x_be2, x_bn2, x_be3, x_bn3, List.length_cons, List.length_nil, List.map_cons, List.map_nil, List.replicate, List.cons_append, List.nil_append, List.append_nil, startE, pick, List.filterMap_cons, List.filterMap_nil, Bool.or_false, Bool.false_or, Bool.or_true, Bool.true_or, Bool.and_true, Bool.true_and, Bool.and_false, Bool.false_and, Bool.not_true, Bool.not_false, Bool.not_not, decide_true, decide_false, Int.cast_ofNat_Int, Nat.reduceAdd, Nat.zero_add, Int.reduceEq, Int.reduceLT, Int.reduceLE, Int.reduceGT, Int.reduceGE, Int.reduceAdd, Int.reduceSub, Int.reduceMul, Int.reduceNeg, Int.reducePow, Int.reduceToNat]
    | list ds =>
      have hz : (zipL ds ds).length ≤ sizeLine := by rw [zip_self, List.length_map]; exact h.1
      simp only [x_lc, x_lc1, hz, key ds _ h.2, all_trues, x_seq, x_seq1, x_seq2, x_seq3, x_seq4, x_seq5, x_asg, x_asg1, x_asgF, x_asgF1, x_exp, x_exp1, x_ret, x_ret1, x_retF, x_retF1, x_retN, x_skip, x_brk, x_cnt, x_if, x_if1, x_if2, x_and, x_and1, x_and2, x_or, x_or1, x_or2, x_not, x_not1, x_bool, x_bool1, x_andV, x_andV1, x_andV2, x_orV, x_orV1, x_orV2, x_notV, x_notV1, x_ifV, x_ifV1, x_ifV2, x_cE, x_nm, x_nm1, x_nm2, x_rd, x_rd1, x_rd2, x_rd3, x_ev0, x_ev, x_ev1, x_ev2, x_pk, x_pk1, x_pk2, x_pk3, x_vv0, x_vv, x_vv1, x_op, x_op1, x_op2, x_ca, x_ck, x_ci, x_ci0, x_ci1, x_ci2, x_ci3, x_ci4, x_ci5, x_tup, x_tup1, x_lst, x_lst1, x_ch, x_ch1, x_ch2, x_ch3, x_ch4, x_ch5, x_asgT, x_asgT1, x_nx, x_par, x_par1, x_par2, x_par3, x_par31, x_par32, x_par33, x_tn, x_t0, x_tc, x_ts, x_ts0, x_ts1, x_up1, x_up2, x_upO, x_upI, x_app, x_app0, x_app1, x_for, x_for1, x_fl1, x_fl2, x_fl3, x_fl4, x_fl5, x_fl6, x_turn, x_its, x_its1, x_its2, x_its3, x_rg1, x_rg2, x_rg21, x_en, x_en1, x_zp, x_zp1, x_zp2, x_zp3, x_st, x_st0, x_st1, x_st2, x_st3, x_yes, x_lc2, x_rA1, x_rA2, x_rF1, x_rI1, x_rI2, x_wh1, x_wh2, x_wh3, x_wh4, x_wh5, o_add, o_sub, o_neg, o_lt, o_le, o_gt, o_ge, o_eq, o_ne, o_eqB, o_neB, o_int, o_abs, o_max, o_min, o_lenL, o_lenT, o_ix0, o_ix1, o_ixl0, o_ixl1, o_ixl2, o_isi, o_isi2, o_isN, o_notN, o_isB, o_notB, x_A0, x_F0, x_I0, x_A1, x_F1, x_I1, x_A2, x_F2, x_I2, x_A3, x_F3, x_I3, x_A4, x_F4, x_I4, x_A5, x_F5, x_I5, x_A6, x_F6, x_I6, x_A7, x_F7, x_I7, x_A8, x_F8, x_I8, x_wi0, x_wi, x_re0, x_re, x_re1, x_ok0, x_ok, x_ok1, x_ok2, o_not0, x_g0, x_gS, x_s0, x_sS, x_bs, x_bn, x_ms, x_isNnone, x_isNbool, x_isNint, x_isNstr, x_isNlist, x_isNtuple, x_isNdict, x_tyintnone, x_tyintbool, x_tyintint, x_tyintstr, x_tyintlist, x_tyinttuple, x_tyintdict, x_tyboolnone, x_tyboolbool, x_tyboolint, x_tyboolstr, x_tyboollist, x_tybooltuple, x_tybooldict, x_tystrnone, x_tystrbool, x_tystrint, x_tystrstr, x_tystrlist, x_tystrtuple, x_tystrdict, x_tytupnone, x_tytupbool, x_tytupint, x_tytupstr, x_tytuplist, x_tytuptuple, x_tytupdict, x_tylstnone, x_tylstbool, x_tylstint, x_tylststr, x_tylstlist, x_tylsttuple, x_tylstdict, x_tydctnone, x_tydctbool, x_tydctint, x_tydctstr, x_tydctlist, x_tydcttuple, x_tydctdict, x_be0, x_bn0, x_be1, x_bn1, x_be2, x_bn2, x_be3, x_bn3, List.length_cons, List.length_nil, List.map_cons, List.map_nil, List.replicate, List.cons_append, List.nil_append, List.append_nil, startE, pick, List.filterMap_cons, List.filterMap_nil, Bool.or_false, Bool.false_or, Bool.or_true, Bool.true_or, Bool.and_true, Bool.true_and, Bool.and_false, Bool.false_and, Bool.not_true, Bool.not_false, Bool.not_not, decide_true, decide_false, Int.cast_ofNat_Int, Nat.reduceAdd, Nat.zero_add, Int.reduceEq, Int.reduceLT, Int.reduceLE, Int.reduceGT, Int.reduceGE, Int.reduceAdd, Int.reduceSub, Int.reduceMul, Int.reduceNeg, Int.reducePow, Int.reduceToNat]
    | tuple ds =>
      have hz : (zipL ds ds).length ≤ sizeLine := by rw [zip_self, List.length_map]; exact h.1
      simp only [x_lc, x_lc1, hz, key ds _ h.2, all_trues, x_seq, x_seq1, x_seq2, x_seq3, x_seq4, x_seq5, x_asg, x_asg1, x_asgF, x_asgF1, x_exp, x_exp1, x_ret, x_ret1, x_retF, x_retF1, x_retN, x_skip, x_brk, x_cnt, x_if, x_if1, x_if2, x_and, x_and1, x_and2, x_or, x_or1, x_or2, x_not, x_not1, x_bool, x_bool1, x_andV, x_andV1, x_andV2, x_orV, x_orV1, x_orV2, x_notV, x_notV1, x_ifV, x_ifV1, x_ifV2, x_cE, x_nm, x_nm1, x_nm2, x_rd, x_rd1, x_rd2, x_rd3, x_ev0, x_ev, x_ev1, x_ev2, x_pk, x_pk1, x_pk2, x_pk3, x_vv0, x_vv, x_vv1, x_op, x_op1, x_op2, x_ca, x_ck, x_ci, x_ci0, x_ci1, x_ci2, x_ci3, x_ci4, x_ci5, x_tup, x_tup1, x_lst, x_lst1, x_ch, x_ch1, x_ch2, x_ch3, x_ch4, x_ch5, x_asgT, x_asgT1, x_nx, x_par, x_par1, x_par2, x_par3, x_par31, x_par32, x_par33, x_tn, x_t0, x_tc, x_ts, x_ts0, x_ts1, x_up1, x_up2, x_upO, x_upI, x_app, x_app0, x_app1, x_for, x_for1, x_fl1, x_fl2, x_fl3, x_fl4, x_fl5, x_fl6, x_turn, x_its, x_its1, x_its2, x_its3, x_rg1, x_rg2, x_rg21, x_en, x_en1, x_zp, x_zp1, x_zp2, x_zp3, x_st, x_st0, x_st1, x_st2, x_st3, x_yes, x_lc2, x_rA1, x_rA2, x_rF1, x_rI1, x_rI2, x_wh1, x_wh2, x_wh3, x_wh4, x_wh5, o_add, o_sub, o_neg, o_lt, o_le, o_gt, o_ge, o_eq, o_ne, o_eqB, o_neB, o_int, o_abs, o_max, o_min, o_lenL, o_lenT, o_ix0, o_ix1, o_ixl0, o_ixl1, o_ixl2, o_isi, o_isi2, o_isN, o_notN, o_isB, o_notB, x_A0, x_F0, x_I0, x_A1, x_F1, x_I1, x_A2, x_F2, x_I2, x_A3, x_F3, x_I3, x_A4, x_F4, x_I4, x_A5, x_F5, x_I5, x_A6, x_F6, x_I6, x_A7, x_F7, x_I7, x_A8, x_F8, x_I8, x_wi0, x_wi, x_re0, x_re, x_re1, x_ok0, x_ok, x_ok1, x_ok2, o_not0, x_g0, x_gS, x_s0, x_sS, x_bs, x_bn, x_ms, x_isNnone, x_isNbool, x_isNint, x_isNstr, x_isNlist, x_isNtuple, x_isNdict, x_tyintnone, x_tyintbool, x_tyintint, x_tyintstr, x_tyintlist, x_tyinttuple, x_tyintdict, x_tyboolnone, x_tyboolbool, x_tyboolint, x_tyboolstr, x_tyboollist, x_tybooltuple, x_tybooldict, x_tystrnone, x_tystrbool, x_tystrint, x_tystrstr, x_tystrlist, x_tystrtuple, x_tystrdict, x_tytupnone, x_tytupbool, x_tytupint, x_tytupstr, x_tytuplist, x_tytuptuple, x_tytupdict, x_tylstnone, x_tylstbool, x_tylstint, x_tylststr, x_tylstlist, x_tylsttuple, x_tylstdict, x_tydctnone, x_tydctbool, x_tydctint, x_tydctstr, x_tydctlist, x_tydcttuple, x_tydctdict, x_be0, x_bn0, x_be1, x_bn1, x_be2, x_bn2, x_be3, x_bn3, List.length_cons, List.length_nil, List.map_cons, List.map_nil, List.replicate, List.cons_append, List.nil_append, List.append_nil, startE, pick, List.filterMap_cons, List.filterMap_nil, Bool.or_false, Bool.false_or, Bool.or_true, Bool.true_or, Bool.and_true, Bool.true_and, Bool.and_false, Bool.false_and, Bool.not_true, Bool.not_false, Bool.not_not, decide_true, decide_false, Int.cast_ofNat_Int, Nat.reduceAdd, Nat.zero_add, Int.reduceEq, Int.reduceLT, Int.reduceLE, Int.reduceGT, Int.reduceGE, Int.reduceAdd, Int.reduceSub, Int.reduceMul, Int.reduceNeg, Int.reducePow, Int.reduceToNat]
    | dict ds => cases h
end LW

set_option maxRecDepth 20000
set_option maxHeartbeats 0
namespace LW
open PySem PySem.Spec PyProof.Rows L2 MP RT
/-! ## the generator -/
theorem o_put0 (x y z d : D) : putAt (.list [x, y, z]) (.int 0) d = some (.list [d, y, z]) := id rfl
theorem o_put2 (x y z d : D) : putAt (.list [x, y, z]) (.int 2) d = some (.list [x, y, d]) := id rfl
theorem o_bits (i : Int) : bitsD [.int i] = some (.int (Builtin.Int.intBits i : Nat)) := id rfl
def gL (a s k : Int) : D := .list [.int a, .int s, .int k]
/-- a generator that has drawn n numbers at most -/
def Gen (n : Nat) (c : D) : Prop := ∃ a s k : Int, c = gL a s k ∧ 0 ≤ a ∧ 0 ≤ s ∧ s < 2147483647 ∧ 0 ≤ k ∧ k ≤ n
theorem Gen.mono {n m : Nat} {c : D} (h : Gen n c) (e : n ≤ m) : Gen m c := by
  obtain ⟨a, s, k, h1, h2, h3, h4, h5, h6⟩ := h
  exact ⟨a, s, k, h1, h2, h3, h4, h5, by omega⟩
theorem n64_mul {x : Int} (h : x.natAbs < 2 ^ 200) : x.natAbs < mulB := Nat.lt_of_lt_of_le h (Nat.pow_le_pow_right (by decide) (by decide))
theorem lim {x : Int} (h : x.natAbs < 1267650600228229401496703205376) : x.natAbs < mulB := n64_mul (Nat.lt_trans h (by decide))
theorem e_hash {s k : Int} (h1 : 0 ≤ s) (h2 : s < 2147483647) (h3 : 0 ≤ k) (h4 : k < 1099511627776) : ∃ r : Int, sem__law_hash [.int s, .int k] = some (.int r) ∧ 0 ≤ r ∧ r < 2147483647 := by
  have a1 := o_mul (i := s) (j := 1140671) (lim (by omega)) (lim (by decide))
  have a2 := o_mul (i := 27644437) (j := k) (lim (by decide)) (lim (by omega))
  have a3 := o_mul (i := 27644437 * k) (j := k) (lim (by omega)) (lim (by omega))
  have a4 := o_mul (i := 131) (j := k) (lim (by decide)) (lim (by omega))
  have a5 := o_mul (i := 62089) (j := k) (lim (by decide)) (lim (by omega))
  have p1 : (0 : Int) < 2147483629 := by decide
  have p2 : (0 : Int) < 2147483587 := by decide
  have p3 : (0 : Int) < 2147483647 := by decide
  rw [sem__law_hash, g__law_hash]
  generalize hm : (s * 1140671 + 27644437 * k * k + 131 * k + 19) % 2147483629 = m
  have m0 : 0 ≤ m := by rw [← hm]; exact Int.emod_nonneg _ (by decide)
  have m1 : m < 2147483629 := by rw [← hm]; exact Int.emod_lt_of_pos _ p1
  have b1 := o_mul (i := m) (j := m) (lim (by omega)) (lim (by omega))
  generalize hq : (m * m + 62089 * k + 32416187) % 2147483587 = q
  have q0 : 0 ≤ q := by rw [← hq]; exact Int.emod_nonneg _ (by decide)
  have q1 : q < 2147483587 := by rw [← hq]; exact Int.emod_lt_of_pos _ p2
  have b2 := o_mul (i := q) (j := 48271) (lim (by omega)) (lim (by decide))
  refine ⟨q * 48271 % 2147483647, ?_, Int.emod_nonneg _ (by decide), Int.emod_lt_of_pos _ p3⟩
  simp only [a1, a2, a3, a4, a5, b1, b2, o_mod p1, o_mod p2, o_mod p3, hm, hq, x_seq, x_seq1, x_seq2, x_seq3, x_seq4, x_seq5, x_asg, x_asg1, x_asgF, x_asgF1, x_exp, x_exp1, x_ret, x_ret1, x_retF, x_retF1, x_retN, x_skip, x_brk, x_cnt, x_if, x_if1, x_if2, x_and, x_and1, x_and2, x_or, x_or1, x_or2, x_not, x_not1, x_bool, x_bool1, x_andV, x_andV1, x_andV2, x_orV, x_orV1, x_orV2, x_notV, x_notV1, x_ifV, x_ifV1, x_ifV2, x_cE, x_nm, x_nm1, x_nm2, x_rd, x_rd1, x_rd2, x_rd3, x_ev0, x_ev, x_ev1, x_ev2, x_pk, x_pk1, x_pk2, x_pk3, x_vv0, x_vv, x_vv1, x_op, x_op1, x_op2, x_ca, x_ck, x_ci, x_ci0, x_ci1, x_ci2, x_ci3, x_ci4, x_ci5, x_tup, x_tup1, x_lst, x_lst1, x_ch, x_ch1, x_ch2, x_ch3, x_ch4, x_ch5, x_asgT, x_asgT1, x_nx, x_par, x_par1, x_par2, x_par3, x_par31, x_par32, x_par33, x_tn, x_t0, x_tc, x_ts, x_ts0, x_ts1, x_up1, x_up2, x_upO, x_upI, x_app, x_app0, x_app1, x_for, x_for1, x_fl1, x_fl2, x_fl3, x_fl4, x_fl5, x_fl6, x_turn, x_its, x_its1, x_its2, x_its3, x_rg1, x_rg2, x_rg21, x_en, x_en1, x_zp, x_zp1, x_zp2, x_zp3, x_st, x_st0, x_st1, x_st2, x_st3, x_yes, x_lc2, x_rA1, x_rA2, x_rF1, x_rI1, x_rI2, x_wh1, x_wh2, x_wh3, x_wh4, x_wh5, o_add, o_sub, o_neg, o_lt, o_le, o_gt, o_ge, o_eq, o_ne, o_eqB, o_neB, o_int, o_abs, o_max, o_min, o_lenL, o_lenT, o_ix0, o_ix1, o_ixl0, o_ixl1, o_ixl2, o_isi, o_isi2, o_isN, o_notN, o_isB, o_notB, x_A0, x_F0, x_I0, x_A1, x_F1, x_I1, x_A2, x_F2, x_I2, x_A3, x_F3, x_I3, x_A4, x_F4, x_I4, x_A5, x_F5, x_I5, x_A6, x_F6, x_I6, x_A7, x_F7, x_I7, x_A8, x_F8, x_I8, x_wi0, x_wi, x_re0, x_re, x_re1, x_ok0, x_ok, x_ok1, x_ok2, o_not0, x_g0, x_gS, x_s0, x_sS, x_bs, x_bn, x_ms, x_isNnone, x_isNbool, x_isNint, x_isNstr, x_isNlist, x_isNtuple, x_isNdict, x_tyintnone, x_tyintbool, x_tyintint, x_tyintstr, x_tyintlist, x_tyinttuple, x_tyintdict, x_tyboolnone, x_tyboolbool, x_tyboolint, x_tyboolstr, x_tyboollist, x_tybooltuple, x_tybooldict, x_tystrnone, x_tystrbool, x_tystrint, x_tystrstr, x_tystrlist, x_tystrtuple, x_tystrdict, x_tytupnone, x_tytupbool, x_tytupint, x_tytupstr, x_tytuplist, x_tytuptuple, x_tytupdict, x_tylstnone, x_tylstbool, x_tylstint, x_tylststr, x_tylstlist, x_tylsttuple, x_tylstdict, x_tydctnone, x_tydctbool, x_tydctint, x_tydctstr, x_tydctlist, x_tydcttuple, x_tydctdict, x_be0, x_bn0, x_be1, x_bn1, x_be2, x_bn2, x_be3, x_bn3, List.length_cons, List.length_nil, List.map_cons, List.map_nil, List.replicate, List.cons_append, List.nil_append, List.append_nil, startE, pick, List.filterMap_cons, List.filterMap_nil, Bool.or_false, Bool.false_or, Bool.or_true, Bool.true_or, Bool.and_true, Bool.true_and, Bool.and_false, Bool.false_and, Bool.not_true, Bool.not_false, Bool.not_not, decide_true, decide_false, Int.cast_ofNat_Int, Nat.reduceAdd, Nat.zero_add, Int.reduceEq, Int.reduceLT, Int.reduceLE, Int.reduceGT, Int.reduceGE, Int.reduceAdd, Int.reduceSub, Int.reduceMul, Int.reduceNeg, Int.reducePow, Int.reduceToNat]
theorem small_divB {b : Int} (h0 : 0 < b) (h1 : b < 1267650600228229401496703205376) : b.natAbs < divB := Nat.lt_of_lt_of_le (show b.natAbs < 2 ^ 100 from Nat.lt_of_lt_of_le (show b.natAbs < 1267650600228229401496703205376 by omega) (by decide)) (Nat.pow_le_pow_right (by decide) (by decide))
theorem bits100 {b : Int} (h0 : 0 < b) (h1 : b < 1267650600228229401496703205376) : Builtin.Int.intBits b ≤ 100 := PyProof.Rows.intBits_le (Nat.lt_of_lt_of_le (show b.natAbs < 1267650600228229401496703205376 by omega) (by decide))
theorem rb_ok {m : Int} (h0 : -4611686018427387904 ≤ m) (h1 : m < 4611686018427387904) : -rangeB ≤ m ∧ m < rangeB := by
  have e : rangeB = 4611686018427387904 := by decide
  rw [e]; exact ⟨h0, h1⟩
theorem div30 (x : Int) : fdivD [.int x, .int 30] = some (.int (x / 30)) := o_fdiv (by decide) (Nat.lt_of_lt_of_le (show (30 : Int).natAbs < 2 ^ 5 by decide) (Nat.pow_le_pow_right (by decide) (by decide)))
theorem e_random {n : Nat} {c : D} {b : Int} (h : Gen n c) (hn : n < 1099511627000) (h0 : 0 < b) (h1 : b < 1267650600228229401496703205376) : ∃ (r : Int) (c' : D), sem__law_random c [.int b] = some (.int r, c') ∧ 0 ≤ r ∧ r < b ∧ Gen (n + 5) c' := by
  obtain ⟨a, s, k, rfl, g1, g2, g3, g4, g5⟩ := h
  rw [sem__law_random, g__law_random]
  by_cases ha : 0 < a
  · have d1 : b.natAbs < divB := small_divB h0 h1
    refine ⟨a % b, gL (a / b) s k, ?_, Int.emod_nonneg _ (by omega), Int.emod_lt_of_pos _ h0, ⟨_, _, _, rfl, Int.ediv_nonneg (by omega) (by omega), g2, g3, g4, by omega⟩⟩
    simp only [gL, show (a > 0) = True from eq_true ha, o_mod h0, o_fdiv h0 d1, o_put0, x_seq, x_seq1, x_seq2, x_seq3, x_seq4, x_seq5, x_asg, x_asg1, x_asgF, x_asgF1, x_exp, x_exp1, x_ret, x_ret1, x_retF, x_retF1, x_retN, x_skip, x_brk, x_cnt, x_if, x_if1, x_if2, x_and, x_and1, x_and2, x_or, x_or1, x_or2, x_not, x_not1, x_bool, x_bool1, x_andV, x_andV1, x_andV2, x_orV, x_orV1, x_orV2, x_notV, x_notV1, x_ifV, x_ifV1, x_ifV2, x_cE, x_nm, x_nm1, x_nm2, x_rd, x_rd1, x_rd2, x_rd3, x_ev0, x_ev, x_ev1, x_ev2, x_pk, x_pk1, x_pk2, x_pk3, x_vv0, x_vv, x_vv1, x_op, x_op1, x_op2, x_ca, x_ck, x_ci, x_ci0, x_ci1, x_ci2, x_ci3, x_ci4, x_ci5, x_tup, x_tup1, x_lst, x_lst1, x_ch, x_ch1, x_ch2, x_ch3, x_ch4, x_ch5, x_asgT, x_asgT1, x_nx, x_par, x_par1, x_par2, x_par3, x_par31, x_par32, x_par33, x_tn, x_t0, x_tc, x_ts, x_ts0, x_ts1, x_up1, x_up2, x_upO, x_upI, x_app, x_app0, x_app1, x_for, x_for1, x_fl1, x_fl2, x_fl3, x_fl4, x_fl5, x_fl6, x_turn, x_its, x_its1, x_its2, x_its3, x_rg1, x_rg2, x_rg21, x_en, x_en1, x_zp, x_zp1, x_zp2, x_zp3, x_st, x_st0, x_st1, x_st2, x_st3, x_yes, x_lc2, x_rA1, x_rA2, x_rF1, x_rI1, x_rI2, x_wh1, x_wh2, x_wh3, x_wh4, x_wh5, o_add, o_sub, o_neg, o_lt, o_le, o_gt, o_ge, o_eq, o_ne, o_eqB, o_neB, o_int, o_abs, o_max, o_min, o_lenL, o_lenT, o_ix0, o_ix1, o_ixl0, o_ixl1, o_ixl2, o_isi, o_isi2, o_isN, o_notN, o_isB, o_notB, x_A0, x_F0, x_I0, x_A1, x_F1, x_I1, x_A2, x_F2, x_I2, x_A3, x_F3, x_I3, x_A4, x_F4, x_I4, x_A5, x_F5, x_I5, x_A6, x_F6, x_I6, x_A7, x_F7, x_I7, x_A8, x_F8, x_I8, x_wi0, x_wi, x_re0, x_re, x_re1, x_ok0, x_ok, x_ok1, x_ok2, o_not0, x_g0, x_gS, x_s0, x_sS, x_bs, x_bn, x_ms, x_isNnone, x_isNbool, x_isNint, x_isNstr, x_isNlist, x_isNtuple, x_isNdict, x_tyintnone, x_tyintbool, x_tyintint, x_tyintstr, x_tyintlist, x_tyinttuple, x_tyintdict, x_tyboolnone, x_tyboolbool, x_tyboolint, x_tyboolstr, x_tyboollist, x_tybooltuple, x_tybooldict, x_tystrnone, x_tystrbool, x_tystrint, x_tystrstr, x_tystrlist, x_tystrtuple, x_tystrdict, x_tytupnone, x_tytupbool, x_tytupint, x_tytupstr, x_tytuplist, x_tytuptuple, x_tytupdict, x_tylstnone, x_tylstbool, x_tylstint, x_tylststr, x_tylstlist, x_tylsttuple, x_tylstdict, x_tydctnone, x_tydctbool, x_tydctint, x_tydctstr, x_tydctlist, x_tydcttuple, x_tydctdict, x_be0, x_bn0, x_be1, x_bn1, x_be2, x_bn2, x_be3, x_bn3, List.length_cons, List.length_nil, List.map_cons, List.map_nil, List.replicate, List.cons_append, List.nil_append, List.append_nil, startE, pick, List.filterMap_cons, List.filterMap_nil, Bool.or_false, Bool.false_or, Bool.or_true, Bool.true_or, Bool.and_true, Bool.true_and, Bool.and_false, Bool.false_and, Bool.not_true, Bool.not_false, Bool.not_not, decide_true, decide_false, Int.cast_ofNat_Int, Nat.reduceAdd, Nat.zero_add, Int.reduceEq, Int.reduceLT, Int.reduceLE, Int.reduceGT, Int.reduceGE, Int.reduceAdd, Int.reduceSub, Int.reduceMul, Int.reduceNeg, Int.reducePow, Int.reduceToNat]
  · have hbit := bits100 h0 h1
    have fd := div30 (Builtin.Int.intBits b : Nat)
    generalize hm : 1 + ((Builtin.Int.intBits b : Nat) : Int) / 30 = m
    have m0 : 0 ≤ m := by omega
    have m1 : m ≤ 4 := by omega
    have p2 : (0 : Int) < 2147483587 := by decide
    obtain ⟨ρ', e1, d, kk, c3, q2, q3, q4, q6, q7⟩ := forL_inv (t := tgName 3) (b := fb__law_random_1) (fun j ρ => ∃ (d kk : Int) (c3 : Cell), ρ = [.io (gL a s kk), .sh (.int b), .sh (.int d), c3] ∧ 0 ≤ d ∧ d < 4294967296 ^ j ∧ 0 ≤ kk ∧ kk ≤ k + j) (intsD 0 m.toNat) 0 [.io (gL a s k), .sh (.int b), .sh (.int 0), .no]
      ⟨0, k, .no, rfl, by omega, by decide, g4, by omega⟩ (by
        rintro j x ρ hx ⟨d, kk, c3, rfl, q1, q2, q3, q4⟩
        have hj : j < m.toNat := by
          have := (List.getElem?_eq_some_iff.mp hx).1
          rwa [intsD_length] at this
        rw [intsD_get hj] at hx
        cases hx
        have hj4 : j ≤ 3 := by omega
        have hj' : j = 0 ∨ j = 1 ∨ j = 2 ∨ j = 3 := by omega
        have dl : d < 79228162514264337593543950336 := by
          rcases hj' with e | e | e | e <;> rw [e] at q2 <;> simp only [Nat.zero_add, Nat.reduceAdd, Int.reducePow] at q2 <;> omega
        obtain ⟨r, e1, r0, r1⟩ := e_hash (k := kk + 1) g2 g3 (by omega) (by omega)
        have mu := o_mul (i := d) (j := 2147483587) (lim (by omega)) (lim (by decide))
        refine ⟨[.io (gL a s (kk + 1)), .sh (.int b), .sh (.int (d * 2147483587 + r)), .sh (.int (0 + (j : Nat)))], .inl ?_, d * 2147483587 + r, kk + 1, _, rfl, by omega, ?_, by omega, by omega⟩
        · rw [fb__law_random_1]
          simp only [gL, x_turn, e1, mu, o_put2, x_seq, x_seq1, x_seq2, x_seq3, x_seq4, x_seq5, x_asg, x_asg1, x_asgF, x_asgF1, x_exp, x_exp1, x_ret, x_ret1, x_retF, x_retF1, x_retN, x_skip, x_brk, x_cnt, x_if, x_if1, x_if2, x_and, x_and1, x_and2, x_or, x_or1, x_or2, x_not, x_not1, x_bool, x_bool1, x_andV, x_andV1, x_andV2, x_orV, x_orV1, x_orV2, x_notV, x_notV1, x_ifV, x_ifV1, x_ifV2, x_cE, x_nm, x_nm1, x_nm2, x_rd, x_rd1, x_rd2, x_rd3, x_ev0, x_ev, x_ev1, x_ev2, x_pk, x_pk1, x_pk2, x_pk3, x_vv0, x_vv, x_vv1, x_op, x_op1, x_op2, x_ca, x_ck, x_ci, x_ci0, x_ci1, x_ci2, x_ci3, x_ci4, x_ci5, x_tup, x_tup1, x_lst, x_lst1, x_ch, x_ch1, x_ch2, x_ch3, x_ch4, x_ch5, x_asgT, x_asgT1, x_nx, x_par, x_par1, x_par2, x_par3, x_par31, x_par32, x_par33, x_tn, x_t0, x_tc, x_ts, x_ts0, x_ts1, x_up1, x_up2, x_upO, x_upI, x_app, x_app0, x_app1, x_for, x_for1, x_fl1, x_fl2, x_fl3, x_fl4, x_fl5, x_fl6, x_turn, x_its, x_its1, x_its2, x_its3, x_rg1, x_rg2, x_rg21, x_en, x_en1, x_zp, x_zp1, x_zp2, x_zp3, x_st, x_st0, x_st1, x_st2, x_st3, x_yes, x_lc2, x_rA1, x_rA2, x_rF1, x_rI1, x_rI2, x_wh1, x_wh2, x_wh3, x_wh4, x_wh5, o_add, o_sub, o_neg, o_lt, o_le, o_gt, o_ge, o_eq, o_ne, o_eqB, o_neB, o_int, o_abs, o_max, o_min, o_lenL, o_lenT, o_ix0, o_ix1, o_ixl0, o_ixl1, o_ixl2, o_isi, o_isi2, o_isN, o_notN, o_isB, o_notB, x_A0, x_F0, x_I0, x_A1, x_F1, x_I1, x_A2, x_F2, x_I2, x_A3, x_F3, x_I3, x_A4, x_F4, x_I4, x_A5, x_F5, x_I5, x_A6, x_F6, x_I6, x_A7, x_F7, x_I7, x_A8, x_F8, x_I8, x_wi0, x_wi, x_re0, x_re, x_re1, x_ok0, x_ok, x_ok1, x_ok2, o_not0, x_g0, x_gS, x_s0, x_sS, x_bs, x_bn, x_ms, x_isNnone, x_isNbool, x_isNint, x_isNstr, x_isNlist, x_isNtuple, x_isNdict, x_tyintnone, x_tyintbool, x_tyintint, x_tyintstr, x_tyintlist, x_tyinttuple, x_tyintdict, x_tyboolnone, x_tyboolbool, x_tyboolint, x_tyboolstr, x_tyboollist, x_tybooltuple, x_tybooldict, x_tystrnone, x_tystrbool, x_tystrint, x_tystrstr, x_tystrlist, x_tystrtuple, x_tystrdict, x_tytupnone, x_tytupbool, x_tytupint, x_tytupstr, x_tytuplist, x_tytuptuple, x_tytupdict, x_tylstnone, x_tylstbool, x_tylstint, x_tylststr, x_tylstlist, x_tylsttuple, x_tylstdict, x_tydctnone, x_tydctbool, x_tydctint, x_tydctstr, x_tydctlist, x_tydcttuple, x_tydctdict, x_be0, x_bn0, x_be1, x_bn1, x_be2, x_bn2, x_be3, x_bn3, List.length_cons, List.length_nil, List.map_cons, List.map_nil, List.replicate, List.cons_append, List.nil_append, List.append_nil, startE, pick, List.filterMap_cons, List.filterMap_nil, Bool.or_false, Bool.false_or, Bool.or_true, Bool.true_or, Bool.and_true, Bool.true_and, Bool.and_false, Bool.false_and, Bool.not_true, Bool.not_false, Bool.not_not, decide_true, decide_false, Int.cast_ofNat_Int, Nat.reduceAdd, Nat.zero_add, Int.reduceEq, Int.reduceLT, Int.reduceLE, Int.reduceGT, Int.reduceGE, Int.reduceAdd, Int.reduceSub, Int.reduceMul, Int.reduceNeg, Int.reducePow, Int.reduceToNat]
        · rw [show 0 + j + 1 = (0 + j) + 1 by omega, Int.pow_succ]
          omega)
    subst q2
    refine ⟨d % b, gL a s kk, ?_, Int.emod_nonneg _ (by omega), Int.emod_lt_of_pos _ h0, ⟨_, _, _, rfl, g1, g2, g3, q6, ?_⟩⟩
    · have rg := x_rg11 m [.io (gL a s k), .sh (.int b), .sh (.int 0), .no] (rb_ok (by omega) (by omega))
      have e1' := e1
      simp only [gL] at e1' rg
      simp only [gL, show (a > 0) = False from eq_false ha, o_bits, fd, hm, rg, e1', o_mod h0, x_seq, x_seq1, x_seq2, x_seq3, x_seq4, x_seq5, x_asg, x_asg1, x_asgF, x_asgF1, x_exp, x_exp1, x_ret, x_ret1, x_retF, x_retF1, x_retN, x_skip, x_brk, x_cnt, x_if, x_if1, x_if2, x_and, x_and1, x_and2, x_or, x_or1, x_or2, x_not, x_not1, x_bool, x_bool1, x_andV, x_andV1, x_andV2, x_orV, x_orV1, x_orV2, x_notV, x_notV1, x_ifV, x_ifV1, x_ifV2, x_cE, x_nm, x_nm1, x_nm2, x_rd, x_rd1, x_rd2, x_rd3, x_ev0, x_ev, x_ev1, x_ev2, x_pk, x_pk1, x_pk2, x_pk3, x_vv0, x_vv, x_vv1, x_op, x_op1, x_op2, x_ca, x_ck, x_ci, x_ci0, x_ci1, x_ci2, x_ci3, x_ci4, x_ci5, x_tup, x_tup1, x_lst, x_lst1, x_ch, x_ch1, x_ch2, x_ch3, x_ch4, x_ch5, x_asgT, x_asgT1, x_nx, x_par, x_par1, x_par2, x_par3, x_par31, x_par32, x_par33, x_tn, x_t0, x_tc, x_ts, x_ts0, x_ts1, x_up1, x_up2, x_upO, x_upI, x_app, x_app0, x_app1, x_for, x_for1, x_fl1, x_fl2, x_fl3, x_fl4, x_fl5, x_fl6, x_turn, x_its, x_its1, x_its2, x_its3, x_rg1, x_rg2, x_rg21, x_en, x_en1, x_zp, x_zp1, x_zp2, x_zp3, x_st, x_st0, x_st1, x_st2, x_st3, x_yes, x_lc2, x_rA1, x_rA2, x_rF1, x_rI1, x_rI2, x_wh1, x_wh2, x_wh3, x_wh4, x_wh5, o_add, o_sub, o_neg, o_lt, o_le, o_gt, o_ge, o_eq, o_ne, o_eqB, o_neB, o_int, o_abs, o_max, o_min, o_lenL, o_lenT, o_ix0, o_ix1, o_ixl0, o_ixl1, o_ixl2, o_isi, o_isi2, o_isN, o_notN, o_isB, o_notB, x_A0, x_F0, x_I0, x_A1, x_F1, x_I1, x_A2, x_F2, x_I2, x_A3, x_F3, x_I3, x_A4, x_F4, x_I4, x_A5, x_F5, x_I5, x_A6, x_F6, x_I6, x_A7, x_F7, x_I7, x_A8, x_F8, x_I8, x_wi0, x_wi, x_re0, x_re, x_re1, x_ok0, x_ok, x_ok1, x_ok2, o_not0, x_g0, x_gS, x_s0, x_sS, x_bs, x_bn, x_ms, x_isNnone, x_isNbool, x_isNint, x_isNstr, x_isNlist, x_isNtuple, x_isNdict, x_tyintnone, x_tyintbool, x_tyintint, x_tyintstr, x_tyintlist, x_tyinttuple, x_tyintdict, x_tyboolnone, x_tyboolbool, x_tyboolint, x_tyboolstr, x_tyboollist, x_tybooltuple, x_tybooldict, x_tystrnone, x_tystrbool, x_tystrint, x_tystrstr, x_tystrlist, x_tystrtuple, x_tystrdict, x_tytupnone, x_tytupbool, x_tytupint, x_tytupstr, x_tytuplist, x_tytuptuple, x_tytupdict, x_tylstnone, x_tylstbool, x_tylstint, x_tylststr, x_tylstlist, x_tylsttuple, x_tylstdict, x_tydctnone, x_tydctbool, x_tydctint, x_tydctstr, x_tydctlist, x_tydcttuple, x_tydctdict, x_be0, x_bn0, x_be1, x_bn1, x_be2, x_bn2, x_be3, x_bn3, List.length_cons, List.length_nil, List.map_cons, List.map_nil, List.replicate, List.cons_append, List.nil_append, List.append_nil, startE, pick, List.filterMap_cons, List.filterMap_nil, Bool.or_false, Bool.false_or, Bool.or_true, Bool.true_or, Bool.and_true, Bool.true_and, Bool.and_false, Bool.false_and, Bool.not_true, Bool.not_false, Bool.not_not, decide_true, decide_false, Int.cast_ofNat_Int, Nat.reduceAdd, Nat.zero_add, Int.reduceEq, Int.reduceLT, Int.reduceLE, Int.reduceGT, Int.reduceGE, Int.reduceAdd, Int.reduceSub, Int.reduceMul, Int.reduceNeg, Int.reducePow, Int.reduceToNat]
    · rw [intsD_length] at q7
      omega
end LW

set_option maxRecDepth 20000
set_option maxHeartbeats 0
namespace LW
open PySem PySem.Spec PyProof.Rows L2 MP RT
theorem o_pow {a n : Int} (h : 0 ≤ n ∧ n ≤ 1000 ∧ a.natAbs < 2 ^ 1000) : powD [.int a, .int n] = some (.int (a ^ n.toNat)) := if_pos h
theorem o_ixR {ds : List D} {i : Int} {d : D} (h0 : 0 ≤ i) (h : ds[i.toNat]? = some d) : ixD [.list ds, .int i] = some d := by
  show L2.atI ds i = some d
  have hl := (List.getElem?_eq_some_iff.mp h).1
  simp only [L2.atI, L2.ixN]
  rw [if_pos h0, if_pos (by omega), Option.bind_some]
  exact h
def cutInt (ns : List Int) (i : Int) : List Int := (ns.drop (HT.sIx ns.length 0 none)).take (HT.sIx ns.length ns.length (some i) - HT.sIx ns.length 0 none)
theorem cut01 (ns : List Int) (i : Int) : MP.cutD (ns.map .int) none (some i) = (cutInt ns i).map .int := by
  unfold MP.cutD cutInt
  rw [List.length_map, List.map_take, List.map_drop]
theorem e_cell (ns : List Int) {i : Int} (h : 0 ≤ i) : ∃ v : Int, sem__law_cell [.list (ns.map .int), .int i] = some (.int v) := by
  rw [sem__law_cell, g__law_cell]
  by_cases hi : i < (ns.length : Int)
  · have hl : i.toNat < ns.length := by omega
    refine ⟨ns[i.toNat], ?_⟩
    have e1 := o_ixR (ds := ns.map .int) (d := .int ns[i.toNat]) h (by simp [hl])
    simp only [e1, List.length_map, show (i < (ns.length : Int)) = True from eq_true hi, x_seq, x_seq1, x_seq2, x_seq3, x_seq4, x_seq5, x_asg, x_asg1, x_asgF, x_asgF1, x_exp, x_exp1, x_ret, x_ret1, x_retF, x_retF1, x_retN, x_skip, x_brk, x_cnt, x_if, x_if1, x_if2, x_and, x_and1, x_and2, x_or, x_or1, x_or2, x_not, x_not1, x_bool, x_bool1, x_andV, x_andV1, x_andV2, x_orV, x_orV1, x_orV2, x_notV, x_notV1, x_ifV, x_ifV1, x_ifV2, x_cE, x_nm, x_nm1, x_nm2, x_rd, x_rd1, x_rd2, x_rd3, x_ev0, x_ev, x_ev1, x_ev2, x_pk, x_pk1, x_pk2, x_pk3, x_vv0, x_vv, x_vv1, x_op, x_op1, x_op2, x_ca, x_ck, x_ci, x_ci0, x_ci1, x_ci2, x_ci3, x_ci4, x_ci5, x_tup, x_tup1, x_lst, x_lst1, x_ch, x_ch1, x_ch2, x_ch3, x_ch4, x_ch5, x_asgT, x_asgT1, x_nx, x_par, x_par1, x_par2, x_par3, x_par31, x_par32, x_par33, x_tn, x_t0, x_tc, x_ts, x_ts0, x_ts1, x_up1, x_up2, x_upO, x_upI, x_app, x_app0, x_app1, x_for, x_for1, x_fl1, x_fl2, x_fl3, x_fl4, x_fl5, x_fl6, x_turn, x_its, x_its1, x_its2, x_its3, x_rg1, x_rg2, x_rg21, x_en, x_en1, x_zp, x_zp1, x_zp2, x_zp3, x_st, x_st0, x_st1, x_st2, x_st3, x_yes, x_lc2, x_rA1, x_rA2, x_rF1, x_rI1, x_rI2, x_wh1, x_wh2, x_wh3, x_wh4, x_wh5, o_add, o_sub, o_neg, o_lt, o_le, o_gt, o_ge, o_eq, o_ne, o_eqB, o_neB, o_int, o_abs, o_max, o_min, o_lenL, o_lenT, o_ix0, o_ix1, o_ixl0, o_ixl1, o_ixl2, o_isi, o_isi2, o_isN, o_notN, o_isB, o_notB, x_A0, x_F0, x_I0, x_A1, x_F1, x_I1, x_A2, x_F2, x_I2, x_A3, x_F3, x_I3, x_A4, x_F4, x_I4, x_A5, x_F5, x_I5, x_A6, x_F6, x_I6, x_A7, x_F7, x_I7, x_A8, x_F8, x_I8, x_wi0, x_wi, x_re0, x_re, x_re1, x_ok0, x_ok, x_ok1, x_ok2, o_not0, x_g0, x_gS, x_s0, x_sS, x_bs, x_bn, x_ms, x_isNnone, x_isNbool, x_isNint, x_isNstr, x_isNlist, x_isNtuple, x_isNdict, x_tyintnone, x_tyintbool, x_tyintint, x_tyintstr, x_tyintlist, x_tyinttuple, x_tyintdict, x_tyboolnone, x_tyboolbool, x_tyboolint, x_tyboolstr, x_tyboollist, x_tybooltuple, x_tybooldict, x_tystrnone, x_tystrbool, x_tystrint, x_tystrstr, x_tystrlist, x_tystrtuple, x_tystrdict, x_tytupnone, x_tytupbool, x_tytupint, x_tytupstr, x_tytuplist, x_tytuptuple, x_tytupdict, x_tylstnone, x_tylstbool, x_tylstint, x_tylststr, x_tylstlist, x_tylsttuple, x_tylstdict, x_tydctnone, x_tydctbool, x_tydctint, x_tydctstr, x_tydctlist, x_tydcttuple, x_tydctdict, x_be0, x_bn0, x_be1, x_bn1, x_be2, x_bn2, x_be3, x_bn3, List.length_cons, List.length_nil, List.map_cons, List.map_nil, List.replicate, List.cons_append, List.nil_append, List.append_nil, startE, pick, List.filterMap_cons, List.filterMap_nil, Bool.or_false, Bool.false_or, Bool.or_true, Bool.true_or, Bool.and_true, Bool.true_and, Bool.and_false, Bool.false_and, Bool.not_true, Bool.not_false, Bool.not_not, decide_true, decide_false, Int.cast_ofNat_Int, Nat.reduceAdd, Nat.zero_add, Int.reduceEq, Int.reduceLT, Int.reduceLE, Int.reduceGT, Int.reduceGE, Int.reduceAdd, Int.reduceSub, Int.reduceMul, Int.reduceNeg, Int.reducePow, Int.reduceToNat]
  · have e1 : sl01 sliceD [.list (ns.map .int), .int 1] = some (.list ((cutInt ns 1).map .int)) := by
      show some (PyData.list (MP.cutD (ns.map .int) none (some 1))) = _
      rw [cut01 ns 1]
    have e2 : sumD [.list ((cutInt ns 1).map .int)] = some (.int (cutInt ns 1).sum) := by
      show (asInts _).map _ = _
      rw [asInts_map]; rfl
    refine ⟨(cutInt ns 1).sum % 1000003, ?_⟩
    simp only [e1, e2, List.length_map, show (i < (ns.length : Int)) = False from eq_false hi, o_mod (show (0 : Int) < 1000003 by decide), x_seq, x_seq1, x_seq2, x_seq3, x_seq4, x_seq5, x_asg, x_asg1, x_asgF, x_asgF1, x_exp, x_exp1, x_ret, x_ret1, x_retF, x_retF1, x_retN, x_skip, x_brk, x_cnt, x_if, x_if1, x_if2, x_and, x_and1, x_and2, x_or, x_or1, x_or2, x_not, x_not1, x_bool, x_bool1, x_andV, x_andV1, x_andV2, x_orV, x_orV1, x_orV2, x_notV, x_notV1, x_ifV, x_ifV1, x_ifV2, x_cE, x_nm, x_nm1, x_nm2, x_rd, x_rd1, x_rd2, x_rd3, x_ev0, x_ev, x_ev1, x_ev2, x_pk, x_pk1, x_pk2, x_pk3, x_vv0, x_vv, x_vv1, x_op, x_op1, x_op2, x_ca, x_ck, x_ci, x_ci0, x_ci1, x_ci2, x_ci3, x_ci4, x_ci5, x_tup, x_tup1, x_lst, x_lst1, x_ch, x_ch1, x_ch2, x_ch3, x_ch4, x_ch5, x_asgT, x_asgT1, x_nx, x_par, x_par1, x_par2, x_par3, x_par31, x_par32, x_par33, x_tn, x_t0, x_tc, x_ts, x_ts0, x_ts1, x_up1, x_up2, x_upO, x_upI, x_app, x_app0, x_app1, x_for, x_for1, x_fl1, x_fl2, x_fl3, x_fl4, x_fl5, x_fl6, x_turn, x_its, x_its1, x_its2, x_its3, x_rg1, x_rg2, x_rg21, x_en, x_en1, x_zp, x_zp1, x_zp2, x_zp3, x_st, x_st0, x_st1, x_st2, x_st3, x_yes, x_lc2, x_rA1, x_rA2, x_rF1, x_rI1, x_rI2, x_wh1, x_wh2, x_wh3, x_wh4, x_wh5, o_add, o_sub, o_neg, o_lt, o_le, o_gt, o_ge, o_eq, o_ne, o_eqB, o_neB, o_int, o_abs, o_max, o_min, o_lenL, o_lenT, o_ix0, o_ix1, o_ixl0, o_ixl1, o_ixl2, o_isi, o_isi2, o_isN, o_notN, o_isB, o_notB, x_A0, x_F0, x_I0, x_A1, x_F1, x_I1, x_A2, x_F2, x_I2, x_A3, x_F3, x_I3, x_A4, x_F4, x_I4, x_A5, x_F5, x_I5, x_A6, x_F6, x_I6, x_A7, x_F7, x_I7, x_A8, x_F8, x_I8, x_wi0, x_wi, x_re0, x_re, x_re1, x_ok0, x_ok, x_ok1, x_ok2, o_not0, x_g0, x_gS, x_s0, x_sS, x_bs, x_bn, x_ms, x_isNnone, x_isNbool, x_isNint, x_isNstr, x_isNlist, x_isNtuple, x_isNdict, x_tyintnone, x_tyintbool, x_tyintint, x_tyintstr, x_tyintlist, x_tyinttuple, x_tyintdict, x_tyboolnone, x_tyboolbool, x_tyboolint, x_tyboolstr, x_tyboollist, x_tybooltuple, x_tybooldict, x_tystrnone, x_tystrbool, x_tystrint, x_tystrstr, x_tystrlist, x_tystrtuple, x_tystrdict, x_tytupnone, x_tytupbool, x_tytupint, x_tytupstr, x_tytuplist, x_tytuptuple, x_tytupdict, x_tylstnone, x_tylstbool, x_tylstint, x_tylststr, x_tylstlist, x_tylsttuple, x_tylstdict, x_tydctnone, x_tydctbool, x_tydctint, x_tydctstr, x_tydctlist, x_tydcttuple, x_tydctdict, x_be0, x_bn0, x_be1, x_bn1, x_be2, x_bn2, x_be3, x_bn3, List.length_cons, List.length_nil, List.map_cons, List.map_nil, List.replicate, List.cons_append, List.nil_append, List.append_nil, startE, pick, List.filterMap_cons, List.filterMap_nil, Bool.or_false, Bool.false_or, Bool.or_true, Bool.true_or, Bool.and_true, Bool.true_and, Bool.and_false, Bool.false_and, Bool.not_true, Bool.not_false, Bool.not_not, decide_true, decide_false, Int.cast_ofNat_Int, Nat.reduceAdd, Nat.zero_add, Int.reduceEq, Int.reduceLT, Int.reduceLE, Int.reduceGT, Int.reduceGE, Int.reduceAdd, Int.reduceSub, Int.reduceMul, Int.reduceNeg, Int.reducePow, Int.reduceToNat]
theorem pow_pos_int : (0 : Int) < (10 ^ 60) ^ 10 := by decide +kernel
theorem e_generator (ns : List Int) {i : Int} (h : 0 ≤ i) (h1 : i ≤ 1000) : ∃ c, sem__law_generator [.list (ns.map .int), .int i] = some c ∧ Gen 1000000 c := by
  obtain ⟨v, hv⟩ := e_cell ns h
  have p1 : powD [.int 10, .int 18] = some (.int (10 ^ 18)) := o_pow ⟨by decide, by decide, Nat.lt_of_lt_of_le (show (10 : Int).natAbs < 2 ^ 4 by decide) (Nat.pow_le_pow_right (by decide) (by decide))⟩
  have p2 : powD [.int 10, .int 60] = some (.int (10 ^ 60)) := o_pow ⟨by decide, by decide, Nat.lt_of_lt_of_le (show (10 : Int).natAbs < 2 ^ 4 by decide) (Nat.pow_le_pow_right (by decide) (by decide))⟩
  have p3 : powD [.int (10 ^ 60), .int 10] = some (.int ((10 ^ 60) ^ 10)) := o_pow ⟨by decide, by decide, Nat.lt_of_lt_of_le (show ((10 : Int) ^ 60).natAbs < 2 ^ 200 by decide +kernel) (Nat.pow_le_pow_right (by decide) (by decide))⟩
  have m1 := o_mul (i := 1000) (j := i) (lim (by decide)) (lim (by omega))
  have q1 := o_mod (i := max (v - 10 ^ 18) 0) pow_pos_int
  have q2 := o_mod (i := v) (show (0 : Int) < 2147483647 by decide)
  refine ⟨gL (max (v - 10 ^ 18) 0 % (10 ^ 60) ^ 10) (v % 2147483647) (1000 * i), ?_, _, _, _, rfl, Int.emod_nonneg _ (by have := pow_pos_int; omega), Int.emod_nonneg _ (by decide), Int.emod_lt_of_pos _ (by decide), by omega, by omega⟩
  rw [sem__law_generator, g__law_generator]
  generalize (10 : Int) ^ 18 = x18 at *
  generalize ((10 : Int) ^ 60) ^ 10 = x600 at *
  generalize (10 : Int) ^ 60 = x60 at *
  simp only [hv, p1, p2, p3, m1, q1, q2, gL, x_seq, x_seq1, x_seq2, x_seq3, x_seq4, x_seq5, x_asg, x_asg1, x_asgF, x_asgF1, x_exp, x_exp1, x_ret, x_ret1, x_retF, x_retF1, x_retN, x_skip, x_brk, x_cnt, x_if, x_if1, x_if2, x_and, x_and1, x_and2, x_or, x_or1, x_or2, x_not, x_not1, x_bool, x_bool1, x_andV, x_andV1, x_andV2, x_orV, x_orV1, x_orV2, x_notV, x_notV1, x_ifV, x_ifV1, x_ifV2, x_cE, x_nm, x_nm1, x_nm2, x_rd, x_rd1, x_rd2, x_rd3, x_ev0, x_ev, x_ev1, x_ev2, x_pk, x_pk1, x_pk2, x_pk3, x_vv0, x_vv, x_vv1, x_op, x_op1, x_op2, x_ca, x_ck, x_ci, x_ci0, x_ci1, x_ci2, x_ci3, x_ci4, x_ci5, x_tup, x_tup1, x_lst, x_lst1, x_ch, x_ch1, x_ch2, x_ch3, x_ch4, x_ch5, x_asgT, x_asgT1, x_nx, x_par, x_par1, x_par2, x_par3, x_par31, x_par32, x_par33, x_tn, x_t0, x_tc, x_ts, x_ts0, x_ts1, x_up1, x_up2, x_upO, x_upI, x_app, x_app0, x_app1, x_for, x_for1, x_fl1, x_fl2, x_fl3, x_fl4, x_fl5, x_fl6, x_turn, x_its, x_its1, x_its2, x_its3, x_rg1, x_rg2, x_rg21, x_en, x_en1, x_zp, x_zp1, x_zp2, x_zp3, x_st, x_st0, x_st1, x_st2, x_st3, x_yes, x_lc2, x_rA1, x_rA2, x_rF1, x_rI1, x_rI2, x_wh1, x_wh2, x_wh3, x_wh4, x_wh5, o_add, o_sub, o_neg, o_lt, o_le, o_gt, o_ge, o_eq, o_ne, o_eqB, o_neB, o_int, o_abs, o_max, o_min, o_lenL, o_lenT, o_ix0, o_ix1, o_ixl0, o_ixl1, o_ixl2, o_isi, o_isi2, o_isN, o_notN, o_isB, o_notB, x_A0, x_F0, x_I0, x_A1, x_F1, x_I1, x_A2, x_F2, x_I2, x_A3, x_F3, x_I3, x_A4, x_F4, x_I4, x_A5, x_F5, x_I5, x_A6, x_F6, x_I6, x_A7, x_F7, x_I7, x_A8, x_F8, x_I8, x_wi0, x_wi, x_re0, x_re, x_re1, x_ok0, x_ok, x_ok1, x_ok2, o_not0, x_g0, x_gS, x_s0, x_sS, x_bs, x_bn, x_ms, x_isNnone, x_isNbool, x_isNint, x_isNstr, x_isNlist, x_isNtuple, x_isNdict, x_tyintnone, x_tyintbool, x_tyintint, x_tyintstr, x_tyintlist, x_tyinttuple, x_tyintdict, x_tyboolnone, x_tyboolbool, x_tyboolint, x_tyboolstr, x_tyboollist, x_tybooltuple, x_tybooldict, x_tystrnone, x_tystrbool, x_tystrint, x_tystrstr, x_tystrlist, x_tystrtuple, x_tystrdict, x_tytupnone, x_tytupbool, x_tytupint, x_tytupstr, x_tytuplist, x_tytuptuple, x_tytupdict, x_tylstnone, x_tylstbool, x_tylstint, x_tylststr, x_tylstlist, x_tylsttuple, x_tylstdict, x_tydctnone, x_tydctbool, x_tydctint, x_tydctstr, x_tydctlist, x_tydcttuple, x_tydctdict, x_be0, x_bn0, x_be1, x_bn1, x_be2, x_bn2, x_be3, x_bn3, List.length_cons, List.length_nil, List.map_cons, List.map_nil, List.replicate, List.cons_append, List.nil_append, List.append_nil, startE, pick, List.filterMap_cons, List.filterMap_nil, Bool.or_false, Bool.false_or, Bool.or_true, Bool.true_or, Bool.and_true, Bool.true_and, Bool.and_false, Bool.false_and, Bool.not_true, Bool.not_false, Bool.not_not, decide_true, decide_false, Int.cast_ofNat_Int, Nat.reduceAdd, Nat.zero_add, Int.reduceEq, Int.reduceLT, Int.reduceLE, Int.reduceGT, Int.reduceGE, Int.reduceAdd, Int.reduceSub, Int.reduceMul, Int.reduceNeg, Int.reducePow, Int.reduceToNat]
theorem e_pick {n : Nat} {c : D} {ds : List D} (h : Gen n c) (hn : n < 1099511627000) (h0 : ds ≠ []) (h1 : (ds.length : Int) < 1267650600228229401496703205376) : ∃ (j : Nat) (d c' : D), sem__law_pick c [.list ds] = some (d, c') ∧ ds[j]? = some d ∧ Gen (n + 5) c' := by
  have hl : 0 < ds.length := List.length_pos_iff.mpr h0
  obtain ⟨r, c', e1, r0, r1, g⟩ := e_random (b := (ds.length : Int)) h hn (by omega) h1
  have hj : r.toNat < ds.length := by omega
  refine ⟨r.toNat, ds[r.toNat], c', ?_, List.getElem?_eq_getElem hj, g⟩
  have e2 := o_ixR (ds := ds) (d := ds[r.toNat]) r0 (List.getElem?_eq_getElem hj)
  rw [sem__law_pick, g__law_pick]
  simp only [e1, e2, x_seq, x_seq1, x_seq2, x_seq3, x_seq4, x_seq5, x_asg, x_asg1, x_asgF, x_asgF1, x_exp, x_exp1, x_ret, x_ret1, x_retF, x_retF1, x_retN, x_skip, x_brk, x_cnt, x_if, x_if1, x_if2, x_and, x_and1, x_and2, x_or, x_or1, x_or2, x_not, x_not1, x_bool, x_bool1, x_andV, x_andV1, x_andV2, x_orV, x_orV1, x_orV2, x_notV, x_notV1, x_ifV, x_ifV1, x_ifV2, x_cE, x_nm, x_nm1, x_nm2, x_rd, x_rd1, x_rd2, x_rd3, x_ev0, x_ev, x_ev1, x_ev2, x_pk, x_pk1, x_pk2, x_pk3, x_vv0, x_vv, x_vv1, x_op, x_op1, x_op2, x_ca, x_ck, x_ci, x_ci0, x_ci1, x_ci2, x_ci3, x_ci4, x_ci5, x_tup, x_tup1, x_lst, x_lst1, x_ch, x_ch1, x_ch2, x_ch3, x_ch4, x_ch5, x_asgT, x_asgT1, x_nx, x_par, x_par1, x_par2, x_par3, x_par31, x_par32, x_par33, x_tn, x_t0, x_tc, x_ts, x_ts0, x_ts1, x_up1, x_up2, x_upO, x_upI, x_app, x_app0, x_app1, x_for, x_for1, x_fl1, x_fl2, x_fl3, x_fl4, x_fl5, x_fl6, x_turn, x_its, x_its1, x_its2, x_its3, x_rg1, x_rg2, x_rg21, x_en, x_en1, x_zp, x_zp1, x_zp2, x_zp3, x_st, x_st0, x_st1, x_st2, x_st3, x_yes, x_lc2, x_rA1, x_rA2, x_rF1, x_rI1, x_rI2, x_wh1, x_wh2, x_wh3, x_wh4, x_wh5, o_add, o_sub, o_neg, o_lt, o_le, o_gt, o_ge, o_eq, o_ne, o_eqB, o_neB, o_int, o_abs, o_max, o_min, o_lenL, o_lenT, o_ix0, o_ix1, o_ixl0, o_ixl1, o_ixl2, o_isi, o_isi2, o_isN, o_notN, o_isB, o_notB, x_A0, x_F0, x_I0, x_A1, x_F1, x_I1, x_A2, x_F2, x_I2, x_A3, x_F3, x_I3, x_A4, x_F4, x_I4, x_A5, x_F5, x_I5, x_A6, x_F6, x_I6, x_A7, x_F7, x_I7, x_A8, x_F8, x_I8, x_wi0, x_wi, x_re0, x_re, x_re1, x_ok0, x_ok, x_ok1, x_ok2, o_not0, x_g0, x_gS, x_s0, x_sS, x_bs, x_bn, x_ms, x_isNnone, x_isNbool, x_isNint, x_isNstr, x_isNlist, x_isNtuple, x_isNdict, x_tyintnone, x_tyintbool, x_tyintint, x_tyintstr, x_tyintlist, x_tyinttuple, x_tyintdict, x_tyboolnone, x_tyboolbool, x_tyboolint, x_tyboolstr, x_tyboollist, x_tybooltuple, x_tybooldict, x_tystrnone, x_tystrbool, x_tystrint, x_tystrstr, x_tystrlist, x_tystrtuple, x_tystrdict, x_tytupnone, x_tytupbool, x_tytupint, x_tytupstr, x_tytuplist, x_tytuptuple, x_tytupdict, x_tylstnone, x_tylstbool, x_tylstint, x_tylststr, x_tylstlist, x_tylsttuple, x_tylstdict, x_tydctnone, x_tydctbool, x_tydctint, x_tydctstr, x_tydctlist, x_tydcttuple, x_tydctdict, x_be0, x_bn0, x_be1, x_bn1, x_be2, x_bn2, x_be3, x_bn3, List.length_cons, List.length_nil, List.map_cons, List.map_nil, List.replicate, List.cons_append, List.nil_append, List.append_nil, startE, pick, List.filterMap_cons, List.filterMap_nil, Bool.or_false, Bool.false_or, Bool.or_true, Bool.true_or, Bool.and_true, Bool.true_and, Bool.and_false, Bool.false_and, Bool.not_true, Bool.not_false, Bool.not_not, decide_true, decide_false, Int.cast_ofNat_Int, Nat.reduceAdd, Nat.zero_add, Int.reduceEq, Int.reduceLT, Int.reduceLE, Int.reduceGT, Int.reduceGE, Int.reduceAdd, Int.reduceSub, Int.reduceMul, Int.reduceNeg, Int.reducePow, Int.reduceToNat]
theorem e_lrest (f : Int) {s : Int} (h : 0 ≤ s) : sem__law_rest [.int f, .int s] = some (eR (fr f s)) := by
  rw [sem__law_rest, g__law_rest]
  by_cases e : s = 0
  · subst e
    simp only [x_seq, x_seq1, x_seq2, x_seq3, x_seq4, x_seq5, x_asg, x_asg1, x_asgF, x_asgF1, x_exp, x_exp1, x_ret, x_ret1, x_retF, x_retF1, x_retN, x_skip, x_brk, x_cnt, x_if, x_if1, x_if2, x_and, x_and1, x_and2, x_or, x_or1, x_or2, x_not, x_not1, x_bool, x_bool1, x_andV, x_andV1, x_andV2, x_orV, x_orV1, x_orV2, x_notV, x_notV1, x_ifV, x_ifV1, x_ifV2, x_cE, x_nm, x_nm1, x_nm2, x_rd, x_rd1, x_rd2, x_rd3, x_ev0, x_ev, x_ev1, x_ev2, x_pk, x_pk1, x_pk2, x_pk3, x_vv0, x_vv, x_vv1, x_op, x_op1, x_op2, x_ca, x_ck, x_ci, x_ci0, x_ci1, x_ci2, x_ci3, x_ci4, x_ci5, x_tup, x_tup1, x_lst, x_lst1, x_ch, x_ch1, x_ch2, x_ch3, x_ch4, x_ch5, x_asgT, x_asgT1, x_nx, x_par, x_par1, x_par2, x_par3, x_par31, x_par32, x_par33, x_tn, x_t0, x_tc, x_ts, x_ts0, x_ts1, x_up1, x_up2, x_upO, x_upI, x_app, x_app0, x_app1, x_for, x_for1, x_fl1, x_fl2, x_fl3, x_fl4, x_fl5, x_fl6, x_turn, x_its, x_its1, x_its2, x_its3, x_rg1, x_rg2, x_rg21, x_en, x_en1, x_zp, x_zp1, x_zp2, x_zp3, x_st, x_st0, x_st1, x_st2, x_st3, x_yes, x_lc2, x_rA1, x_rA2, x_rF1, x_rI1, x_rI2, x_wh1, x_wh2, x_wh3, x_wh4, x_wh5, o_add, o_sub, o_neg, o_lt, o_le, o_gt, o_ge, o_eq, o_ne, o_eqB, o_neB, o_int, o_abs, o_max, o_min, o_lenL, o_lenT, o_ix0, o_ix1, o_ixl0, o_ixl1, o_ixl2, o_isi, o_isi2, o_isN, o_notN, o_isB, o_notB, x_A0, x_F0, x_I0, x_A1, x_F1, x_I1, x_A2, x_F2, x_I2, x_A3, x_F3, x_I3, x_A4, x_F4, x_I4, x_A5, x_F5, x_I5, x_A6, x_F6, x_I6, x_A7, x_F7, x_I7, x_A8, x_F8, x_I8, x_wi0, x_wi, x_re0, x_re, x_re1, x_ok0, x_ok, x_ok1, x_ok2, o_not0, x_g0, x_gS, x_s0, x_sS, x_bs, x_bn, x_ms, x_isNnone, x_isNbool, x_isNint, x_isNstr, x_isNlist, x_isNtuple, x_isNdict, x_tyintnone, x_tyintbool, x_tyintint, x_tyintstr, x_tyintlist, x_tyinttuple, x_tyintdict, x_tyboolnone, x_tyboolbool, x_tyboolint, x_tyboolstr, x_tyboollist, x_tybooltuple, x_tybooldict, x_tystrnone, x_tystrbool, x_tystrint, x_tystrstr, x_tystrlist, x_tystrtuple, x_tystrdict, x_tytupnone, x_tytupbool, x_tytupint, x_tytupstr, x_tytuplist, x_tytuptuple, x_tytupdict, x_tylstnone, x_tylstbool, x_tylstint, x_tylststr, x_tylstlist, x_tylsttuple, x_tylstdict, x_tydctnone, x_tydctbool, x_tydctint, x_tydctstr, x_tydctlist, x_tydcttuple, x_tydctdict, x_be0, x_bn0, x_be1, x_bn1, x_be2, x_bn2, x_be3, x_bn3, List.length_cons, List.length_nil, List.map_cons, List.map_nil, List.replicate, List.cons_append, List.nil_append, List.append_nil, startE, pick, List.filterMap_cons, List.filterMap_nil, Bool.or_false, Bool.false_or, Bool.or_true, Bool.true_or, Bool.and_true, Bool.true_and, Bool.and_false, Bool.false_and, Bool.not_true, Bool.not_false, Bool.not_not, decide_true, decide_false, Int.cast_ofNat_Int, Nat.reduceAdd, Nat.zero_add, Int.reduceEq, Int.reduceLT, Int.reduceLE, Int.reduceGT, Int.reduceGE, Int.reduceAdd, Int.reduceSub, Int.reduceMul, Int.reduceNeg, Int.reducePow, Int.reduceToNat]
    rw [fr_zero]
  · have hp : 0 < s := by omega
    simp only [e, o_mod hp, x_seq, x_seq1, x_seq2, x_seq3, x_seq4, x_seq5, x_asg, x_asg1, x_asgF, x_asgF1, x_exp, x_exp1, x_ret, x_ret1, x_retF, x_retF1, x_retN, x_skip, x_brk, x_cnt, x_if, x_if1, x_if2, x_and, x_and1, x_and2, x_or, x_or1, x_or2, x_not, x_not1, x_bool, x_bool1, x_andV, x_andV1, x_andV2, x_orV, x_orV1, x_orV2, x_notV, x_notV1, x_ifV, x_ifV1, x_ifV2, x_cE, x_nm, x_nm1, x_nm2, x_rd, x_rd1, x_rd2, x_rd3, x_ev0, x_ev, x_ev1, x_ev2, x_pk, x_pk1, x_pk2, x_pk3, x_vv0, x_vv, x_vv1, x_op, x_op1, x_op2, x_ca, x_ck, x_ci, x_ci0, x_ci1, x_ci2, x_ci3, x_ci4, x_ci5, x_tup, x_tup1, x_lst, x_lst1, x_ch, x_ch1, x_ch2, x_ch3, x_ch4, x_ch5, x_asgT, x_asgT1, x_nx, x_par, x_par1, x_par2, x_par3, x_par31, x_par32, x_par33, x_tn, x_t0, x_tc, x_ts, x_ts0, x_ts1, x_up1, x_up2, x_upO, x_upI, x_app, x_app0, x_app1, x_for, x_for1, x_fl1, x_fl2, x_fl3, x_fl4, x_fl5, x_fl6, x_turn, x_its, x_its1, x_its2, x_its3, x_rg1, x_rg2, x_rg21, x_en, x_en1, x_zp, x_zp1, x_zp2, x_zp3, x_st, x_st0, x_st1, x_st2, x_st3, x_yes, x_lc2, x_rA1, x_rA2, x_rF1, x_rI1, x_rI2, x_wh1, x_wh2, x_wh3, x_wh4, x_wh5, o_add, o_sub, o_neg, o_lt, o_le, o_gt, o_ge, o_eq, o_ne, o_eqB, o_neB, o_int, o_abs, o_max, o_min, o_lenL, o_lenT, o_ix0, o_ix1, o_ixl0, o_ixl1, o_ixl2, o_isi, o_isi2, o_isN, o_notN, o_isB, o_notB, x_A0, x_F0, x_I0, x_A1, x_F1, x_I1, x_A2, x_F2, x_I2, x_A3, x_F3, x_I3, x_A4, x_F4, x_I4, x_A5, x_F5, x_I5, x_A6, x_F6, x_I6, x_A7, x_F7, x_I7, x_A8, x_F8, x_I8, x_wi0, x_wi, x_re0, x_re, x_re1, x_ok0, x_ok, x_ok1, x_ok2, o_not0, x_g0, x_gS, x_s0, x_sS, x_bs, x_bn, x_ms, x_isNnone, x_isNbool, x_isNint, x_isNstr, x_isNlist, x_isNtuple, x_isNdict, x_tyintnone, x_tyintbool, x_tyintint, x_tyintstr, x_tyintlist, x_tyinttuple, x_tyintdict, x_tyboolnone, x_tyboolbool, x_tyboolint, x_tyboolstr, x_tyboollist, x_tybooltuple, x_tybooldict, x_tystrnone, x_tystrbool, x_tystrint, x_tystrstr, x_tystrlist, x_tystrtuple, x_tystrdict, x_tytupnone, x_tytupbool, x_tytupint, x_tytupstr, x_tytuplist, x_tytuptuple, x_tytupdict, x_tylstnone, x_tylstbool, x_tylstint, x_tylststr, x_tylstlist, x_tylsttuple, x_tylstdict, x_tydctnone, x_tydctbool, x_tydctint, x_tydctstr, x_tydctlist, x_tydcttuple, x_tydctdict, x_be0, x_bn0, x_be1, x_bn1, x_be2, x_bn2, x_be3, x_bn3, List.length_cons, List.length_nil, List.map_cons, List.map_nil, List.replicate, List.cons_append, List.nil_append, List.append_nil, startE, pick, List.filterMap_cons, List.filterMap_nil, Bool.or_false, Bool.false_or, Bool.or_true, Bool.true_or, Bool.and_true, Bool.true_and, Bool.and_false, Bool.false_and, Bool.not_true, Bool.not_false, Bool.not_not, decide_true, decide_false, Int.cast_ofNat_Int, Nat.reduceAdd, Nat.zero_add, Int.reduceEq, Int.reduceLT, Int.reduceLE, Int.reduceGT, Int.reduceGE, Int.reduceAdd, Int.reduceSub, Int.reduceMul, Int.reduceNeg, Int.reducePow, Int.reduceToNat]
    rw [fr_pos e]
theorem e_lin (f n : Int) {s : Int} (h : 0 ≤ s) : sem__law_in [.tuple [.int f, .int s], .int n] = some (.bool (inQ f s n)) := by
  rw [sem__law_in, g__law_in]
  unfold inQ
  by_cases e : s = 0
  · subst e
    simp only [x_seq, x_seq1, x_seq2, x_seq3, x_seq4, x_seq5, x_asg, x_asg1, x_asgF, x_asgF1, x_exp, x_exp1, x_ret, x_ret1, x_retF, x_retF1, x_retN, x_skip, x_brk, x_cnt, x_if, x_if1, x_if2, x_and, x_and1, x_and2, x_or, x_or1, x_or2, x_not, x_not1, x_bool, x_bool1, x_andV, x_andV1, x_andV2, x_orV, x_orV1, x_orV2, x_notV, x_notV1, x_ifV, x_ifV1, x_ifV2, x_cE, x_nm, x_nm1, x_nm2, x_rd, x_rd1, x_rd2, x_rd3, x_ev0, x_ev, x_ev1, x_ev2, x_pk, x_pk1, x_pk2, x_pk3, x_vv0, x_vv, x_vv1, x_op, x_op1, x_op2, x_ca, x_ck, x_ci, x_ci0, x_ci1, x_ci2, x_ci3, x_ci4, x_ci5, x_tup, x_tup1, x_lst, x_lst1, x_ch, x_ch1, x_ch2, x_ch3, x_ch4, x_ch5, x_asgT, x_asgT1, x_nx, x_par, x_par1, x_par2, x_par3, x_par31, x_par32, x_par33, x_tn, x_t0, x_tc, x_ts, x_ts0, x_ts1, x_up1, x_up2, x_upO, x_upI, x_app, x_app0, x_app1, x_for, x_for1, x_fl1, x_fl2, x_fl3, x_fl4, x_fl5, x_fl6, x_turn, x_its, x_its1, x_its2, x_its3, x_rg1, x_rg2, x_rg21, x_en, x_en1, x_zp, x_zp1, x_zp2, x_zp3, x_st, x_st0, x_st1, x_st2, x_st3, x_yes, x_lc2, x_rA1, x_rA2, x_rF1, x_rI1, x_rI2, x_wh1, x_wh2, x_wh3, x_wh4, x_wh5, o_add, o_sub, o_neg, o_lt, o_le, o_gt, o_ge, o_eq, o_ne, o_eqB, o_neB, o_int, o_abs, o_max, o_min, o_lenL, o_lenT, o_ix0, o_ix1, o_ixl0, o_ixl1, o_ixl2, o_isi, o_isi2, o_isN, o_notN, o_isB, o_notB, x_A0, x_F0, x_I0, x_A1, x_F1, x_I1, x_A2, x_F2, x_I2, x_A3, x_F3, x_I3, x_A4, x_F4, x_I4, x_A5, x_F5, x_I5, x_A6, x_F6, x_I6, x_A7, x_F7, x_I7, x_A8, x_F8, x_I8, x_wi0, x_wi, x_re0, x_re, x_re1, x_ok0, x_ok, x_ok1, x_ok2, o_not0, x_g0, x_gS, x_s0, x_sS, x_bs, x_bn, x_ms, x_isNnone, x_isNbool, x_isNint, x_isNstr, x_isNlist, x_isNtuple, x_isNdict, x_tyintnone, x_tyintbool, x_tyintint, x_tyintstr, x_tyintlist, x_tyinttuple, x_tyintdict, x_tyboolnone, x_tyboolbool, x_tyboolint, x_tyboolstr, x_tyboollist, x_tybooltuple, x_tybooldict, x_tystrnone, x_tystrbool, x_tystrint, x_tystrstr, x_tystrlist, x_tystrtuple, x_tystrdict, x_tytupnone, x_tytupbool, x_tytupint, x_tytupstr, x_tytuplist, x_tytuptuple, x_tytupdict, x_tylstnone, x_tylstbool, x_tylstint, x_tylststr, x_tylstlist, x_tylsttuple, x_tylstdict, x_tydctnone, x_tydctbool, x_tydctint, x_tydctstr, x_tydctlist, x_tydcttuple, x_tydctdict, x_be0, x_bn0, x_be1, x_bn1, x_be2, x_bn2, x_be3, x_bn3, List.length_cons, List.length_nil, List.map_cons, List.map_nil, List.replicate, List.cons_append, List.nil_append, List.append_nil, startE, pick, List.filterMap_cons, List.filterMap_nil, Bool.or_false, Bool.false_or, Bool.or_true, Bool.true_or, Bool.and_true, Bool.true_and, Bool.and_false, Bool.false_and, Bool.not_true, Bool.not_false, Bool.not_not, decide_true, decide_false, Int.cast_ofNat_Int, Nat.reduceAdd, Nat.zero_add, Int.reduceEq, Int.reduceLT, Int.reduceLE, Int.reduceGT, Int.reduceGE, Int.reduceAdd, Int.reduceSub, Int.reduceMul, Int.reduceNeg, Int.reducePow, Int.reduceToNat]
    simp only [if_true]
  · have hp : 0 < s := by omega
    simp only [e, o_mod hp, x_seq, x_seq1, x_seq2, x_seq3, x_seq4, x_seq5, x_asg, x_asg1, x_asgF, x_asgF1, x_exp, x_exp1, x_ret, x_ret1, x_retF, x_retF1, x_retN, x_skip, x_brk, x_cnt, x_if, x_if1, x_if2, x_and, x_and1, x_and2, x_or, x_or1, x_or2, x_not, x_not1, x_bool, x_bool1, x_andV, x_andV1, x_andV2, x_orV, x_orV1, x_orV2, x_notV, x_notV1, x_ifV, x_ifV1, x_ifV2, x_cE, x_nm, x_nm1, x_nm2, x_rd, x_rd1, x_rd2, x_rd3, x_ev0, x_ev, x_ev1, x_ev2, x_pk, x_pk1, x_pk2, x_pk3, x_vv0, x_vv, x_vv1, x_op, x_op1, x_op2, x_ca, x_ck, x_ci, x_ci0, x_ci1, x_ci2, x_ci3, x_ci4, x_ci5, x_tup, x_tup1, x_lst, x_lst1, x_ch, x_ch1, x_ch2, x_ch3, x_ch4, x_ch5, x_asgT, x_asgT1, x_nx, x_par, x_par1, x_par2, x_par3, x_par31, x_par32, x_par33, x_tn, x_t0, x_tc, x_ts, x_ts0, x_ts1, x_up1, x_up2, x_upO, x_upI, x_app, x_app0, x_app1, x_for, x_for1, x_fl1, x_fl2, x_fl3, x_fl4, x_fl5, x_fl6, x_turn, x_its, x_its1, x_its2, x_its3, x_rg1, x_rg2, x_rg21, x_en, x_en1, x_zp, x_zp1, x_zp2, x_zp3, x_st, x_st0, x_st1, x_st2, x_st3, x_yes, x_lc2, x_rA1, x_rA2, x_rF1, x_rI1, x_rI2, x_wh1, x_wh2, x_wh3, x_wh4, x_wh5, o_add, o_sub, o_neg, o_lt, o_le, o_gt, o_ge, o_eq, o_ne, o_eqB, o_neB, o_int, o_abs, o_max, o_min, o_lenL, o_lenT, o_ix0, o_ix1, o_ixl0, o_ixl1, o_ixl2, o_isi, o_isi2, o_isN, o_notN, o_isB, o_notB, x_A0, x_F0, x_I0, x_A1, x_F1, x_I1, x_A2, x_F2, x_I2, x_A3, x_F3, x_I3, x_A4, x_F4, x_I4, x_A5, x_F5, x_I5, x_A6, x_F6, x_I6, x_A7, x_F7, x_I7, x_A8, x_F8, x_I8, x_wi0, x_wi, x_re0, x_re, x_re1, x_ok0, x_ok, x_ok1, x_ok2, o_not0, x_g0, x_gS, x_s0, x_sS, x_bs, x_bn, x_ms, x_isNnone, x_isNbool, x_isNint, x_isNstr, x_isNlist, x_isNtuple, x_isNdict, x_tyintnone, x_tyintbool, x_tyintint, x_tyintstr, x_tyintlist, x_tyinttuple, x_tyintdict, x_tyboolnone, x_tyboolbool, x_tyboolint, x_tyboolstr, x_tyboollist, x_tybooltuple, x_tybooldict, x_tystrnone, x_tystrbool, x_tystrint, x_tystrstr, x_tystrlist, x_tystrtuple, x_tystrdict, x_tytupnone, x_tytupbool, x_tytupint, x_tytupstr, x_tytuplist, x_tytuptuple, x_tytupdict, x_tylstnone, x_tylstbool, x_tylstint, x_tylststr, x_tylstlist, x_tylsttuple, x_tylstdict, x_tydctnone, x_tydctbool, x_tydctint, x_tydctstr, x_tydctlist, x_tydcttuple, x_tydctdict, x_be0, x_bn0, x_be1, x_bn1, x_be2, x_bn2, x_be3, x_bn3, List.length_cons, List.length_nil, List.map_cons, List.map_nil, List.replicate, List.cons_append, List.nil_append, List.append_nil, startE, pick, List.filterMap_cons, List.filterMap_nil, Bool.or_false, Bool.false_or, Bool.or_true, Bool.true_or, Bool.and_true, Bool.true_and, Bool.and_false, Bool.false_and, Bool.not_true, Bool.not_false, Bool.not_not, decide_true, decide_false, Int.cast_ofNat_Int, Nat.reduceAdd, Nat.zero_add, Int.reduceEq, Int.reduceLT, Int.reduceLE, Int.reduceGT, Int.reduceGE, Int.reduceAdd, Int.reduceSub, Int.reduceMul, Int.reduceNeg, Int.reducePow, Int.reduceToNat]
    simp only [if_false]
theorem lw_common : ∀ (n : Nat) (a b : Int), b.toNat ≤ n → 0 ≤ a → 0 ≤ b → whileM wc__law_common_1 wb__law_common_2 [.sh (.int a), .sh (.int b)] = some (.nx [.sh (.int (gc a b)), .sh (.int 0)]) := by
  intro n
  induction n with
  | zero =>
    intro a b hb ha hb0
    obtain rfl : b = 0 := by omega
    rw [x_wh, wc__law_common_1]
    simp only [x_seq, x_seq1, x_seq2, x_seq3, x_seq4, x_seq5, x_asg, x_asg1, x_asgF, x_asgF1, x_exp, x_exp1, x_ret, x_ret1, x_retF, x_retF1, x_retN, x_skip, x_brk, x_cnt, x_if, x_if1, x_if2, x_and, x_and1, x_and2, x_or, x_or1, x_or2, x_not, x_not1, x_bool, x_bool1, x_andV, x_andV1, x_andV2, x_orV, x_orV1, x_orV2, x_notV, x_notV1, x_ifV, x_ifV1, x_ifV2, x_cE, x_nm, x_nm1, x_nm2, x_rd, x_rd1, x_rd2, x_rd3, x_ev0, x_ev, x_ev1, x_ev2, x_pk, x_pk1, x_pk2, x_pk3, x_vv0, x_vv, x_vv1, x_op, x_op1, x_op2, x_ca, x_ck, x_ci, x_ci0, x_ci1, x_ci2, x_ci3, x_ci4, x_ci5, x_tup, x_tup1, x_lst, x_lst1, x_ch, x_ch1, x_ch2, x_ch3, x_ch4, x_ch5, x_asgT, x_asgT1, x_nx, x_par, x_par1, x_par2, x_par3, x_par31, x_par32, x_par33, x_tn, x_t0, x_tc, x_ts, x_ts0, x_ts1, x_up1, x_up2, x_upO, x_upI, x_app, x_app0, x_app1, x_for, x_for1, x_fl1, x_fl2, x_fl3, x_fl4, x_fl5, x_fl6, x_turn, x_its, x_its1, x_its2, x_its3, x_rg1, x_rg2, x_rg21, x_en, x_en1, x_zp, x_zp1, x_zp2, x_zp3, x_st, x_st0, x_st1, x_st2, x_st3, x_yes, x_lc2, x_rA1, x_rA2, x_rF1, x_rI1, x_rI2, x_wh1, x_wh2, x_wh3, x_wh4, x_wh5, o_add, o_sub, o_neg, o_lt, o_le, o_gt, o_ge, o_eq, o_ne, o_eqB, o_neB, o_int, o_abs, o_max, o_min, o_lenL, o_lenT, o_ix0, o_ix1, o_ixl0, o_ixl1, o_ixl2, o_isi, o_isi2, o_isN, o_notN, o_isB, o_notB, x_A0, x_F0, x_I0, x_A1, x_F1, x_I1, x_A2, x_F2, x_I2, x_A3, x_F3, x_I3, x_A4, x_F4, x_I4, x_A5, x_F5, x_I5, x_A6, x_F6, x_I6, x_A7, x_F7, x_I7, x_A8, x_F8, x_I8, x_wi0, x_wi, x_re0, x_re, x_re1, x_ok0, x_ok, x_ok1, x_ok2, o_not0, x_g0, x_gS, x_s0, x_sS, x_bs, x_bn, x_ms, x_isNnone, x_isNbool, x_isNint, x_isNstr, x_isNlist, x_isNtuple, x_isNdict, x_tyintnone, x_tyintbool, x_tyintint, x_tyintstr, x_tyintlist, x_tyinttuple, x_tyintdict, x_tyboolnone, x_tyboolbool, x_tyboolint, x_tyboolstr, x_tyboollist, x_tybooltuple, x_tybooldict, x_tystrnone, x_tystrbool, x_tystrint, x_tystrstr, x_tystrlist, x_tystrtuple, x_tystrdict, x_tytupnone, x_tytupbool, x_tytupint, x_tytupstr, x_tytuplist, x_tytuptuple, x_tytupdict, x_tylstnone, x_tylstbool, x_tylstint, x_tylststr, x_tylstlist, x_tylsttuple, x_tylstdict, x_tydctnone, x_tydctbool, x_tydctint, x_tydctstr, x_tydctlist, x_tydcttuple, x_tydctdict, x_be0, x_bn0, x_be1, x_bn1, x_be2, x_bn2, x_be3, x_bn3, List.length_cons, List.length_nil, List.map_cons, List.map_nil, List.replicate, List.cons_append, List.nil_append, List.append_nil, startE, pick, List.filterMap_cons, List.filterMap_nil, Bool.or_false, Bool.false_or, Bool.or_true, Bool.true_or, Bool.and_true, Bool.true_and, Bool.and_false, Bool.false_and, Bool.not_true, Bool.not_false, Bool.not_not, decide_true, decide_false, Int.cast_ofNat_Int, Nat.reduceAdd, Nat.zero_add, Int.reduceEq, Int.reduceLT, Int.reduceLE, Int.reduceGT, Int.reduceGE, Int.reduceAdd, Int.reduceSub, Int.reduceMul, Int.reduceNeg, Int.reducePow, Int.reduceToNat]
    rw [gc_zero ha]
  | succ n ih =>
    intro a b hb ha hb0
    by_cases e : b = 0
    · subst e
      rw [x_wh, wc__law_common_1]
      simp only [x_seq, x_seq1, x_seq2, x_seq3, x_seq4, x_seq5, x_asg, x_asg1, x_asgF, x_asgF1, x_exp, x_exp1, x_ret, x_ret1, x_retF, x_retF1, x_retN, x_skip, x_brk, x_cnt, x_if, x_if1, x_if2, x_and, x_and1, x_and2, x_or, x_or1, x_or2, x_not, x_not1, x_bool, x_bool1, x_andV, x_andV1, x_andV2, x_orV, x_orV1, x_orV2, x_notV, x_notV1, x_ifV, x_ifV1, x_ifV2, x_cE, x_nm, x_nm1, x_nm2, x_rd, x_rd1, x_rd2, x_rd3, x_ev0, x_ev, x_ev1, x_ev2, x_pk, x_pk1, x_pk2, x_pk3, x_vv0, x_vv, x_vv1, x_op, x_op1, x_op2, x_ca, x_ck, x_ci, x_ci0, x_ci1, x_ci2, x_ci3, x_ci4, x_ci5, x_tup, x_tup1, x_lst, x_lst1, x_ch, x_ch1, x_ch2, x_ch3, x_ch4, x_ch5, x_asgT, x_asgT1, x_nx, x_par, x_par1, x_par2, x_par3, x_par31, x_par32, x_par33, x_tn, x_t0, x_tc, x_ts, x_ts0, x_ts1, x_up1, x_up2, x_upO, x_upI, x_app, x_app0, x_app1, x_for, x_for1, x_fl1, x_fl2, x_fl3, x_fl4, x_fl5, x_fl6, x_turn, x_its, x_its1, x_its2, x_its3, x_rg1, x_rg2, x_rg21, x_en, x_en1, x_zp, x_zp1, x_zp2, x_zp3, x_st, x_st0, x_st1, x_st2, x_st3, x_yes, x_lc2, x_rA1, x_rA2, x_rF1, x_rI1, x_rI2, x_wh1, x_wh2, x_wh3, x_wh4, x_wh5, o_add, o_sub, o_neg, o_lt, o_le, o_gt, o_ge, o_eq, o_ne, o_eqB, o_neB, o_int, o_abs, o_max, o_min, o_lenL, o_lenT, o_ix0, o_ix1, o_ixl0, o_ixl1, o_ixl2, o_isi, o_isi2, o_isN, o_notN, o_isB, o_notB, x_A0, x_F0, x_I0, x_A1, x_F1, x_I1, x_A2, x_F2, x_I2, x_A3, x_F3, x_I3, x_A4, x_F4, x_I4, x_A5, x_F5, x_I5, x_A6, x_F6, x_I6, x_A7, x_F7, x_I7, x_A8, x_F8, x_I8, x_wi0, x_wi, x_re0, x_re, x_re1, x_ok0, x_ok, x_ok1, x_ok2, o_not0, x_g0, x_gS, x_s0, x_sS, x_bs, x_bn, x_ms, x_isNnone, x_isNbool, x_isNint, x_isNstr, x_isNlist, x_isNtuple, x_isNdict, x_tyintnone, x_tyintbool, x_tyintint, x_tyintstr, x_tyintlist, x_tyinttuple, x_tyintdict, x_tyboolnone, x_tyboolbool, x_tyboolint, x_tyboolstr, x_tyboollist, x_tybooltuple, x_tybooldict, x_tystrnone, x_tystrbool, x_tystrint, x_tystrstr, x_tystrlist, x_tystrtuple, x_tystrdict, x_tytupnone, x_tytupbool, x_tytupint, x_tytupstr, x_tytuplist, x_tytuptuple, x_tytupdict, x_tylstnone, x_tylstbool, x_tylstint, x_tylststr, x_tylstlist, x_tylsttuple, x_tylstdict, x_tydctnone, x_tydctbool, x_tydctint, x_tydctstr, x_tydctlist, x_tydcttuple, x_tydctdict, x_be0, x_bn0, x_be1, x_bn1, x_be2, x_bn2, x_be3, x_bn3, List.length_cons, List.length_nil, List.map_cons, List.map_nil, List.replicate, List.cons_append, List.nil_append, List.append_nil, startE, pick, List.filterMap_cons, List.filterMap_nil, Bool.or_false, Bool.false_or, Bool.or_true, Bool.true_or, Bool.and_true, Bool.true_and, Bool.and_false, Bool.false_and, Bool.not_true, Bool.not_false, Bool.not_not, decide_true, decide_false, Int.cast_ofNat_Int, Nat.reduceAdd, Nat.zero_add, Int.reduceEq, Int.reduceLT, Int.reduceLE, Int.reduceGT, Int.reduceGE, Int.reduceAdd, Int.reduceSub, Int.reduceMul, Int.reduceNeg, Int.reducePow, Int.reduceToNat]
      rw [gc_zero ha]
    · have hp : 0 < b := by omega
      rw [x_wh, wc__law_common_1, wb__law_common_2]
      simp only [show (b > 0) = True from eq_true hp, o_mod hp, x_seq, x_seq1, x_seq2, x_seq3, x_seq4, x_seq5, x_asg, x_asg1, x_asgF, x_asgF1, x_exp, x_exp1, x_ret, x_ret1, x_retF, x_retF1, x_retN, x_skip, x_brk, x_cnt, x_if, x_if1, x_if2, x_and, x_and1, x_and2, x_or, x_or1, x_or2, x_not, x_not1, x_bool, x_bool1, x_andV, x_andV1, x_andV2, x_orV, x_orV1, x_orV2, x_notV, x_notV1, x_ifV, x_ifV1, x_ifV2, x_cE, x_nm, x_nm1, x_nm2, x_rd, x_rd1, x_rd2, x_rd3, x_ev0, x_ev, x_ev1, x_ev2, x_pk, x_pk1, x_pk2, x_pk3, x_vv0, x_vv, x_vv1, x_op, x_op1, x_op2, x_ca, x_ck, x_ci, x_ci0, x_ci1, x_ci2, x_ci3, x_ci4, x_ci5, x_tup, x_tup1, x_lst, x_lst1, x_ch, x_ch1, x_ch2, x_ch3, x_ch4, x_ch5, x_asgT, x_asgT1, x_nx, x_par, x_par1, x_par2, x_par3, x_par31, x_par32, x_par33, x_tn, x_t0, x_tc, x_ts, x_ts0, x_ts1, x_up1, x_up2, x_upO, x_upI, x_app, x_app0, x_app1, x_for, x_for1, x_fl1, x_fl2, x_fl3, x_fl4, x_fl5, x_fl6, x_turn, x_its, x_its1, x_its2, x_its3, x_rg1, x_rg2, x_rg21, x_en, x_en1, x_zp, x_zp1, x_zp2, x_zp3, x_st, x_st0, x_st1, x_st2, x_st3, x_yes, x_lc2, x_rA1, x_rA2, x_rF1, x_rI1, x_rI2, x_wh1, x_wh2, x_wh3, x_wh4, x_wh5, o_add, o_sub, o_neg, o_lt, o_le, o_gt, o_ge, o_eq, o_ne, o_eqB, o_neB, o_int, o_abs, o_max, o_min, o_lenL, o_lenT, o_ix0, o_ix1, o_ixl0, o_ixl1, o_ixl2, o_isi, o_isi2, o_isN, o_notN, o_isB, o_notB, x_A0, x_F0, x_I0, x_A1, x_F1, x_I1, x_A2, x_F2, x_I2, x_A3, x_F3, x_I3, x_A4, x_F4, x_I4, x_A5, x_F5, x_I5, x_A6, x_F6, x_I6, x_A7, x_F7, x_I7, x_A8, x_F8, x_I8, x_wi0, x_wi, x_re0, x_re, x_re1, x_ok0, x_ok, x_ok1, x_ok2, o_not0, x_g0, x_gS, x_s0, x_sS, x_bs, x_bn, x_ms, x_isNnone, x_isNbool, x_isNint, x_isNstr, x_isNlist, x_isNtuple, x_isNdict, x_tyintnone, x_tyintbool, x_tyintint, x_tyintstr, x_tyintlist, x_tyinttuple, x_tyintdict, x_tyboolnone, x_tyboolbool, x_tyboolint, x_tyboolstr, x_tyboollist, x_tybooltuple, x_tybooldict, x_tystrnone, x_tystrbool, x_tystrint, x_tystrstr, x_tystrlist, x_tystrtuple, x_tystrdict, x_tytupnone, x_tytupbool, x_tytupint, x_tytupstr, x_tytuplist, x_tytuptuple, x_tytupdict, x_tylstnone, x_tylstbool, x_tylstint, x_tylststr, x_tylstlist, x_tylsttuple, x_tylstdict, x_tydctnone, x_tydctbool, x_tydctint, x_tydctstr, x_tydctlist, x_tydcttuple, x_tydctdict, x_be0, x_bn0, x_be1, x_bn1, x_be2, x_bn2, x_be3, x_bn3, List.length_cons, List.length_nil, List.map_cons, List.map_nil, List.replicate, List.cons_append, List.nil_append, List.append_nil, startE, pick, List.filterMap_cons, List.filterMap_nil, Bool.or_false, Bool.false_or, Bool.or_true, Bool.true_or, Bool.and_true, Bool.true_and, Bool.and_false, Bool.false_and, Bool.not_true, Bool.not_false, Bool.not_not, decide_true, decide_false, Int.cast_ofNat_Int, Nat.reduceAdd, Nat.zero_add, Int.reduceEq, Int.reduceLT, Int.reduceLE, Int.reduceGT, Int.reduceGE, Int.reduceAdd, Int.reduceSub, Int.reduceMul, Int.reduceNeg, Int.reducePow, Int.reduceToNat]
      have h1 := Int.emod_nonneg a e
      have h2 := Int.emod_lt_of_pos a hp
      have := ih b (a % b) (by omega) hb0 h1
      rw [wc__law_common_1, wb__law_common_2] at this
      rw [this, gc_step]
theorem e_lcommon {a b : Int} (ha : 0 ≤ a) (hb : 0 ≤ b) : sem__law_common [.int a, .int b] = some (.int (gc a b)) := by
  rw [sem__law_common, g__law_common]
  simp only [lw_common _ a b (Nat.le_refl _) ha hb, x_seq, x_seq1, x_seq2, x_seq3, x_seq4, x_seq5, x_asg, x_asg1, x_asgF, x_asgF1, x_exp, x_exp1, x_ret, x_ret1, x_retF, x_retF1, x_retN, x_skip, x_brk, x_cnt, x_if, x_if1, x_if2, x_and, x_and1, x_and2, x_or, x_or1, x_or2, x_not, x_not1, x_bool, x_bool1, x_andV, x_andV1, x_andV2, x_orV, x_orV1, x_orV2, x_notV, x_notV1, x_ifV, x_ifV1, x_ifV2, x_cE, x_nm, x_nm1, x_nm2, x_rd, x_rd1, x_rd2, x_rd3, x_ev0, x_ev, x_ev1, x_ev2, x_pk, x_pk1, x_pk2, x_pk3, x_vv0, x_vv, x_vv1, x_op, x_op1, x_op2, x_ca, x_ck, x_ci, x_ci0, x_ci1, x_ci2, x_ci3, x_ci4, x_ci5, x_tup, x_tup1, x_lst, x_lst1, x_ch, x_ch1, x_ch2, x_ch3, x_ch4, x_ch5, x_asgT, x_asgT1, x_nx, x_par, x_par1, x_par2, x_par3, x_par31, x_par32, x_par33, x_tn, x_t0, x_tc, x_ts, x_ts0, x_ts1, x_up1, x_up2, x_upO, x_upI, x_app, x_app0, x_app1, x_for, x_for1, x_fl1, x_fl2, x_fl3, x_fl4, x_fl5, x_fl6, x_turn, x_its, x_its1, x_its2, x_its3, x_rg1, x_rg2, x_rg21, x_en, x_en1, x_zp, x_zp1, x_zp2, x_zp3, x_st, x_st0, x_st1, x_st2, x_st3, x_yes, x_lc2, x_rA1, x_rA2, x_rF1, x_rI1, x_rI2, x_wh1, x_wh2, x_wh3, x_wh4, x_wh5, o_add, o_sub, o_neg, o_lt, o_le, o_gt, o_ge, o_eq, o_ne, o_eqB, o_neB, o_int, o_abs, o_max, o_min, o_lenL, o_lenT, o_ix0, o_ix1, o_ixl0, o_ixl1, o_ixl2, o_isi, o_isi2, o_isN, o_notN, o_isB, o_notB, x_A0, x_F0, x_I0, x_A1, x_F1, x_I1, x_A2, x_F2, x_I2, x_A3, x_F3, x_I3, x_A4, x_F4, x_I4, x_A5, x_F5, x_I5, x_A6, x_F6, x_I6, x_A7, x_F7, x_I7, x_A8, x_F8, x_I8, x_wi0, x_wi, x_re0, x_re, x_re1, x_ok0, x_ok, x_ok1, x_ok2, o_not0, x_g0, x_gS, x_s0, x_sS, x_bs, x_bn, x_ms, x_isNnone, x_isNbool, x_isNint, x_isNstr, x_isNlist, x_isNtuple, x_isNdict, x_tyintnone, x_tyintbool, x_tyintint, x_tyintstr, x_tyintlist, x_tyinttuple, x_tyintdict, x_tyboolnone, x_tyboolbool, x_tyboolint, x_tyboolstr, x_tyboollist, x_tybooltuple, x_tybooldict, x_tystrnone, x_tystrbool, x_tystrint, x_tystrstr, x_tystrlist, x_tystrtuple, x_tystrdict, x_tytupnone, x_tytupbool, x_tytupint, x_tytupstr, x_tytuplist, x_tytuptuple, x_tytupdict, x_tylstnone, x_tylstbool, x_tylstint, x_tylststr, x_tylstlist, x_tylsttuple, x_tylstdict, x_tydctnone, x_tydctbool, x_tydctint, x_tydctstr, x_tydctlist, x_tydcttuple, x_tydctdict, x_be0, x_bn0, x_be1, x_bn1, x_be2, x_bn2, x_be3, x_bn3, List.length_cons, List.length_nil, List.map_cons, List.map_nil, List.replicate, List.cons_append, List.nil_append, List.append_nil, startE, pick, List.filterMap_cons, List.filterMap_nil, Bool.or_false, Bool.false_or, Bool.or_true, Bool.true_or, Bool.and_true, Bool.true_and, Bool.and_false, Bool.false_and, Bool.not_true, Bool.not_false, Bool.not_not, decide_true, decide_false, Int.cast_ofNat_Int, Nat.reduceAdd, Nat.zero_add, Int.reduceEq, Int.reduceLT, Int.reduceLE, Int.reduceGT, Int.reduceGE, Int.reduceAdd, Int.reduceSub, Int.reduceMul, Int.reduceNeg, Int.reducePow, Int.reduceToNat]
/-! numbers in a window -/
def nums (f s lo hi : Int) : List Int := ((List.range (hi - lo).toNat).map fun i => lo + (i : Nat)).filter (inQ f s)
theorem mem_nums {f s lo hi n : Int} : n ∈ nums f s lo hi ↔ lo ≤ n ∧ n < hi ∧ Mem f s n := by
  unfold nums
  rw [List.mem_filter, inQ_iff, List.mem_map]
  constructor
  · rintro ⟨⟨i, hi', rfl⟩, h⟩
    rw [List.mem_range] at hi'
    exact ⟨by omega, by omega, h⟩
  · rintro ⟨h1, h2, h3⟩
    exact ⟨⟨(n - lo).toNat, by rw [List.mem_range]; omega, by omega⟩, h3⟩
theorem rb_of {m X : Int} (h0 : -X ≤ m) (h1 : m ≤ X) (h : X < 4611686018427387904) : -rangeB ≤ m ∧ m < rangeB := rb_ok (by omega) (by omega)
theorem fm_ints (p : Int → Bool) (g : D → Option D) (hg : ∀ i, g (.int i) = if p i = true then some (.int i) else none) : ∀ ns : List Int, (ns.map PyData.int).filterMap g = (ns.filter p).map .int
  | [] => rfl
  | n :: ns => by
    rw [List.map_cons, List.filterMap_cons, hg, List.filter_cons]
    split
    · rename_i h
      split at h
      · cases h
      · rename_i hp
        rw [if_neg hp, fm_ints p g hg ns]
    · rename_i h
      split at h
      · rename_i hp
        cases h
        rw [if_pos hp, List.map_cons, fm_ints p g hg ns]
      · cases h
theorem ints_map (lo : Int) (n : Nat) : intsD lo n = ((List.range n).map fun i => lo + (i : Nat)).map .int := by
  unfold intsD
  rw [List.map_map]; rfl
theorem e_numbers (r : Int × Int) {lo hi : Int} (h : 0 ≤ r.2) (h1 : -4611686018427387904 ≤ lo) (h2 : hi < 4611686018427387904) (h3 : lo < 4611686018427387904) (h4 : -4611686018427387904 ≤ hi) (hz : (hi - lo).toNat ≤ sizeLine) : sem__law_numbers [eR r, .int lo, .int hi] = some (.list ((nums r.1 r.2 lo hi).map .int)) := by
  rw [sem__law_numbers, g__law_numbers]
  have rg := fun ρ => x_rg22 lo hi ρ ⟨rb_ok h1 h3, rb_ok h4 h2⟩
  have hz' : (intsD lo (hi - lo).toNat).length ≤ sizeLine := by rw [intsD_length]; exact hz
  have cl : compL (tgName 3) cc__law_numbers_1 ce__law_numbers_2 [3] (intsD lo (hi - lo).toNat) [.sh (.tuple [.int r.1, .int r.2]), .sh (.int lo), .sh (.int hi), .no] = some ((nums r.1 r.2 lo hi).map .int, [.sh (.tuple [.int r.1, .int r.2]), .sh (.int lo), .sh (.int hi), .no]) := by
    rw [compL_pure (g := fun d => match d with
      | .int i => if inQ r.1 r.2 i = true then some (.int i) else none
      | _ => none) fun d hd => ?_]
    · rw [ints_map, fm_ints (inQ r.1 r.2) _ (fun _ => rfl)]
      rfl
    · rw [ints_map] at hd
      obtain ⟨i, _, rfl⟩ := List.mem_map.mp hd
      rw [cc__law_numbers_1, ce__law_numbers_2]
      cases hq : inQ r.1 r.2 i with
      | true => simp only [e_lin r.1 i h, hq, if_true, x_seq, x_seq1, x_seq2, x_seq3, x_seq4, x_seq5, x_asg, x_asg1, x_asgF, x_asgF1, x_exp, x_exp1, x_ret, x_ret1, x_retF, x_retF1, x_retN, x_skip, x_brk, x_cnt, x_if, x_if1, x_if2, x_and, x_and1, x_and2, x_or, x_or1, x_or2, x_not, x_not1, x_bool, x_bool1, x_andV, x_andV1, x_andV2, x_orV, x_orV1, x_orV2, x_notV, x_notV1, x_ifV, x_ifV1, x_ifV2, x_cE, x_nm, x_nm1, x_nm2, x_rd, x_rd1, x_rd2, x_rd3, x_ev0, x_ev, x_ev1, x_ev2, x_pk, x_pk1, x_pk2, x_pk3, x_vv0, x_vv, x_vv1, x_op, x_op1, x_op2, x_ca, x_ck, x_ci, x_ci0, x_ci1, x_ci2, x_ci3, x_ci4, x_ci5, x_tup, x_tup1, x_lst, x_lst1, x_ch, x_ch1, x_ch2, x_ch3, x_ch4, x_ch5, x_asgT, x_asgT1, x_nx, x_par, x_par1, x_par2, x_par3, x_par31, x_par32, x_par33, x_tn, x_t0, x_tc, x_ts, x_ts0, x_ts1, x_up1, x_up2, x_upO, x_upI, x_app, x_app0, x_app1, x_for, x_for1, x_fl1, x_fl2, x_fl3, x_fl4, x_fl5, x_fl6, x_turn, x_its, x_its1, x_its2, x_its3, x_rg1, x_rg2, x_rg21, x_en, x_en1, x_zp, x_zp1, x_zp2, x_zp3, x_st, x_st0, x_st1, x_st2, x_st3, x_yes, x_lc2, x_rA1, x_rA2, x_rF1, x_rI1, x_rI2, x_wh1, x_wh2, x_wh3, x_wh4, x_wh5, o_add, o_sub, o_neg, o_lt, o_le, o_gt, o_ge, o_eq, o_ne, o_eqB, o_neB, o_int, o_abs, o_max, o_min, o_lenL, o_lenT, o_ix0, o_ix1, o_ixl0, o_ixl1, o_ixl2, o_isi, o_isi2, o_isN, o_notN, o_isB, o_notB, x_A0, x_F0, x_I0, x_A1, x_F1, x_I1, x_A2, x_F2, x_I2, x_A3, x_F3, x_I3, x_A4, x_F4, x_I4, x_A5, x_F5, x_I5, x_A6, x_F6, x_I6, x_A7, x_F7, x_I7, x_A8, x_F8, x_I8, x_wi0, x_wi, x_re0, x_re, x_re1, x_ok0, x_ok, x_ok1, x_ok2, o_not0, x_g0, x_gS, x_s0, x_sS, x_bs, x_bn, x_ms, x_isNnone, x_isNbool, x_isNint, x_isNstr, x_isNlist, x_isNtuple, x_isNdict, x_tyintnone, x_tyintbool, x_tyintint, x_tyintstr, x_tyintlist, x_tyinttuple, x_tyintdict, x_tyboolnone, x_tyboolbool, x_tyboolint, x_tyboolstr, x_tyboollist, x_tybooltuple, x_tybooldict, x_tystrnone, x_tystrbool, x_tystrint, x_tystrstr, x_tystrlist, x_tystrtuple, x_tystrdict, x_tytupnone, x_tytupbool, x_tytupint, x_tytupstr, x_tytuplist, x_tytuptuple, x_tytupdict, x_tylstnone, x_tylstbool, x_tylstint, x_tylststr, x_tylstlist, x_tylsttuple, x_tylstdict, x_tydctnone, x_tydctbool, x_tydctint, x_tydctstr, x_tydctlist, x_tydcttuple, x_tydctdict, x_be0, x_bn0, x_be1, x_bn1, x_be2, x_bn2, x_be3, x_bn3, List.length_cons, List.length_nil, List.map_cons, List.map_nil, List.replicate, List.cons_append, List.nil_append, List.append_nil, startE, pick, List.filterMap_cons, List.filterMap_nil, Bool.or_false, Bool.false_or, Bool.or_true, Bool.true_or, Bool.and_true, Bool.true_and, Bool.and_false, Bool.false_and, Bool.not_true, Bool.not_false, Bool.not_not, decide_true, decide_false, Int.cast_ofNat_Int, Nat.reduceAdd, Nat.zero_add, Int.reduceEq, Int.reduceLT, Int.reduceLE, Int.reduceGT, Int.reduceGE, Int.reduceAdd, Int.reduceSub, Int.reduceMul, Int.reduceNeg, Int.reducePow, Int.reduceToNat]
      | false => simp only [e_lin r.1 i h, hq, Bool.false_eq_true, if_false, x_seq, x_seq1, x_seq2, x_seq3, x_seq4, x_seq5, x_asg, x_asg1, x_asgF, x_asgF1, x_exp, x_exp1, x_ret, x_ret1, x_retF, x_retF1, x_retN, x_skip, x_brk, x_cnt, x_if, x_if1, x_if2, x_and, x_and1, x_and2, x_or, x_or1, x_or2, x_not, x_not1, x_bool, x_bool1, x_andV, x_andV1, x_andV2, x_orV, x_orV1, x_orV2, x_notV, x_notV1, x_ifV, x_ifV1, x_ifV2, x_cE, x_nm, x_nm1, x_nm2, x_rd, x_rd1, x_rd2, x_rd3, x_ev0, x_ev, x_ev1, x_ev2, x_pk, x_pk1, x_pk2, x_pk3, x_vv0, x_vv, x_vv1, x_op, x_op1, x_op2, x_ca, x_ck, x_ci, x_ci0, x_ci1, x_ci2, x_ci3, x_ci4, x_ci5, x_tup, x_tup1, x_lst, x_lst1, x_ch, x_ch1, x_ch2, x_ch3, x_ch4, x_ch5, x_asgT, x_asgT1, x_nx, x_par, x_par1, x_par2, x_par3, x_par31, x_par32, x_par33, x_tn, x_t0, x_tc, x_ts, x_ts0, x_ts1, x_up1, x_up2, x_upO, x_upI, x_app, x_app0, x_app1, x_for, x_for1, x_fl1, x_fl2, x_fl3, x_fl4, x_fl5, x_fl6, x_turn, x_its, x_its1, x_its2, x_its3, x_rg1, x_rg2, x_rg21, x_en, x_en1, x_zp, x_zp1, x_zp2, x_zp3, x_st, x_st0, x_st1, x_st2, x_st3, x_yes, x_lc2, x_rA1, x_rA2, x_rF1, x_rI1, x_rI2, x_wh1, x_wh2, x_wh3, x_wh4, x_wh5, o_add, o_sub, o_neg, o_lt, o_le, o_gt, o_ge, o_eq, o_ne, o_eqB, o_neB, o_int, o_abs, o_max, o_min, o_lenL, o_lenT, o_ix0, o_ix1, o_ixl0, o_ixl1, o_ixl2, o_isi, o_isi2, o_isN, o_notN, o_isB, o_notB, x_A0, x_F0, x_I0, x_A1, x_F1, x_I1, x_A2, x_F2, x_I2, x_A3, x_F3, x_I3, x_A4, x_F4, x_I4, x_A5, x_F5, x_I5, x_A6, x_F6, x_I6, x_A7, x_F7, x_I7, x_A8, x_F8, x_I8, x_wi0, x_wi, x_re0, x_re, x_re1, x_ok0, x_ok, x_ok1, x_ok2, o_not0, x_g0, x_gS, x_s0, x_sS, x_bs, x_bn, x_ms, x_isNnone, x_isNbool, x_isNint, x_isNstr, x_isNlist, x_isNtuple, x_isNdict, x_tyintnone, x_tyintbool, x_tyintint, x_tyintstr, x_tyintlist, x_tyinttuple, x_tyintdict, x_tyboolnone, x_tyboolbool, x_tyboolint, x_tyboolstr, x_tyboollist, x_tybooltuple, x_tybooldict, x_tystrnone, x_tystrbool, x_tystrint, x_tystrstr, x_tystrlist, x_tystrtuple, x_tystrdict, x_tytupnone, x_tytupbool, x_tytupint, x_tytupstr, x_tytuplist, x_tytuptuple, x_tytupdict, x_tylstnone, x_tylstbool, x_tylstint, x_tylststr, x_tylstlist, x_tylsttuple, x_tylstdict, x_tydctnone, x_tydctbool, x_tydctint, x_tydctstr, x_tydctlist, x_tydcttuple, x_tydctdict, x_be0, x_bn0, x_be1, x_bn1, x_be2, x_bn2, x_be3, x_bn3, List.length_cons, List.length_nil, List.map_cons, List.map_nil, List.replicate, List.cons_append, List.nil_append, List.append_nil, startE, pick, List.filterMap_cons, List.filterMap_nil, Bool.or_false, Bool.false_or, Bool.or_true, Bool.true_or, Bool.and_true, Bool.true_and, Bool.and_false, Bool.false_and, Bool.not_true, Bool.not_false, Bool.not_not, decide_true, decide_false, Int.cast_ofNat_Int, Nat.reduceAdd, Nat.zero_add, Int.reduceEq, Int.reduceLT, Int.reduceLE, Int.reduceGT, Int.reduceGE, Int.reduceAdd, Int.reduceSub, Int.reduceMul, Int.reduceNeg, Int.reducePow, Int.reduceToNat]
  simp only [rg, x_lc, x_lc1, hz', cl, x_seq, x_seq1, x_seq2, x_seq3, x_seq4, x_seq5, x_asg, x_asg1, x_asgF, x_asgF1, x_exp, x_exp1, x_ret, x_ret1, x_retF, x_retF1, x_retN, x_skip, x_brk, x_cnt, x_if, x_if1, x_if2, x_and, x_and1, x_and2, x_or, x_or1, x_or2, x_not, x_not1, x_bool, x_bool1, x_andV, x_andV1, x_andV2, x_orV, x_orV1, x_orV2, x_notV, x_notV1, x_ifV, x_ifV1, x_ifV2, x_cE, x_nm, x_nm1, x_nm2, x_rd, x_rd1, x_rd2, x_rd3, x_ev0, x_ev, x_ev1, x_ev2, x_pk, x_pk1, x_pk2, x_pk3, x_vv0, x_vv, x_vv1, x_op, x_op1, x_op2, x_ca, x_ck, x_ci, x_ci0, x_ci1, x_ci2, x_ci3, x_ci4, x_ci5, x_tup, x_tup1, x_lst, x_lst1, x_ch, x_ch1, x_ch2, x_ch3, x_ch4, x_ch5, x_asgT, x_asgT1, x_nx, x_par, x_par1, x_par2, x_par3, x_par31, x_par32, x_par33, x_tn, x_t0, x_tc, x_ts, x_ts0, x_ts1, x_up1, x_up2, x_upO, x_upI, x_app, x_app0, x_app1, x_for, x_for1, x_fl1, x_fl2, x_fl3, x_fl4, x_fl5, x_fl6, x_turn, x_its, x_its1, x_its2, x_its3, x_rg1, x_rg2, x_rg21, x_en, x_en1, x_zp, x_zp1, x_zp2, x_zp3, x_st, x_st0, x_st1, x_st2, x_st3, x_yes, x_lc2, x_rA1, x_rA2, x_rF1, x_rI1, x_rI2, x_wh1, x_wh2, x_wh3, x_wh4, x_wh5, o_add, o_sub, o_neg, o_lt, o_le, o_gt, o_ge, o_eq, o_ne, o_eqB, o_neB, o_int, o_abs, o_max, o_min, o_lenL, o_lenT, o_ix0, o_ix1, o_ixl0, o_ixl1, o_ixl2, o_isi, o_isi2, o_isN, o_notN, o_isB, o_notB, x_A0, x_F0, x_I0, x_A1, x_F1, x_I1, x_A2, x_F2, x_I2, x_A3, x_F3, x_I3, x_A4, x_F4, x_I4, x_A5, x_F5, x_I5, x_A6, x_F6, x_I6, x_A7, x_F7, x_I7, x_A8, x_F8, x_I8, x_wi0, x_wi, x_re0, x_re, x_re1, x_ok0, x_ok, x_ok1, x_ok2, o_not0, x_g0, x_gS, x_s0, x_sS, x_bs, x_bn, x_ms, x_isNnone, x_isNbool, x_isNint, x_isNstr, x_isNlist, x_isNtuple, x_isNdict, x_tyintnone, x_tyintbool, x_tyintint, x_tyintstr, x_tyintlist, x_tyinttuple, x_tyintdict, x_tyboolnone, x_tyboolbool, x_tyboolint, x_tyboolstr, x_tyboollist, x_tybooltuple, x_tybooldict, x_tystrnone, x_tystrbool, x_tystrint, x_tystrstr, x_tystrlist, x_tystrtuple, x_tystrdict, x_tytupnone, x_tytupbool, x_tytupint, x_tytupstr, x_tytuplist, x_tytuptuple, x_tytupdict, x_tylstnone, x_tylstbool, x_tylstint, x_tylststr, x_tylstlist, x_tylsttuple, x_tylstdict, x_tydctnone, x_tydctbool, x_tydctint, x_tydctstr, x_tydctlist, x_tydcttuple, x_tydctdict, x_be0, x_bn0, x_be1, x_bn1, x_be2, x_bn2, x_be3, x_bn3, List.length_cons, List.length_nil, List.map_cons, List.map_nil, List.replicate, List.cons_append, List.nil_append, List.append_nil, startE, pick, List.filterMap_cons, List.filterMap_nil, Bool.or_false, Bool.false_or, Bool.or_true, Bool.true_or, Bool.and_true, Bool.true_and, Bool.and_false, Bool.false_and, Bool.not_true, Bool.not_false, Bool.not_not, decide_true, decide_false, Int.cast_ofNat_Int, Nat.reduceAdd, Nat.zero_add, Int.reduceEq, Int.reduceLT, Int.reduceLE, Int.reduceGT, Int.reduceGE, Int.reduceAdd, Int.reduceSub, Int.reduceMul, Int.reduceNeg, Int.reducePow, Int.reduceToNat]
end LW

set_option maxRecDepth 20000
set_option maxHeartbeats 0
namespace LW
open PySem PySem.Spec PyProof.Rows L2 MP RT
theorem e_some_rest {n : Nat} {c : D} (h : Gen n c) (hn : n < 1099511626000) : ∃ (r : Int × Int) (c' : D), sem__law_some_rest c [.int 12] = some (eR r, c') ∧ Can r.1 r.2 ∧ -12 ≤ r.1 ∧ r.1 ≤ 12 ∧ r.2 ≤ 12 ∧ Gen (n + 15) c' := by
  obtain ⟨x, c1, e1, x0, x1, g1⟩ := e_random (b := 12) h (by omega) (by decide) (by decide)
  obtain ⟨j, d, c2, e2, hd, g2⟩ := e_pick (ds := [.int 0, .int 0, .int 1, .int 2, .int 3, .int 4, .int 6, .int 12, .int (1 + x)]) g1 (by omega) (by simp) (by simp only [List.length_cons, List.length_nil]; omega)
  have ⟨t, ht, t0, t1⟩ : ∃ t : Int, d = .int t ∧ 0 ≤ t ∧ t ≤ 12 := by
    have := List.mem_of_getElem? hd
    simp only [List.mem_cons, List.not_mem_nil, or_false] at this
    rcases this with h | h | h | h | h | h | h | h | h <;> subst h <;> exact ⟨_, rfl, by omega, by omega⟩
  subst ht
  have mu := o_mul (i := 2) (j := 12) (lim (by decide)) (lim (by decide))
  rw [sem__law_some_rest, g__law_some_rest]
  by_cases e : t = 0
  · subst e
    obtain ⟨y, c3, e3, y0, y1, g3⟩ := e_random (b := 25) g2 (by omega) (by decide) (by decide)
    refine ⟨(y - 12, 0), c3, ?_, ⟨Int.le_refl 0, .inl rfl⟩, by show -12 ≤ y - 12; omega, by show y - 12 ≤ 12; omega, by show (0 : Int) ≤ 12; decide, g3.mono (by omega)⟩
    simp only [e1, e2, e3, mu, x_seq, x_seq1, x_seq2, x_seq3, x_seq4, x_seq5, x_asg, x_asg1, x_asgF, x_asgF1, x_exp, x_exp1, x_ret, x_ret1, x_retF, x_retF1, x_retN, x_skip, x_brk, x_cnt, x_if, x_if1, x_if2, x_and, x_and1, x_and2, x_or, x_or1, x_or2, x_not, x_not1, x_bool, x_bool1, x_andV, x_andV1, x_andV2, x_orV, x_orV1, x_orV2, x_notV, x_notV1, x_ifV, x_ifV1, x_ifV2, x_cE, x_nm, x_nm1, x_nm2, x_rd, x_rd1, x_rd2, x_rd3, x_ev0, x_ev, x_ev1, x_ev2, x_pk, x_pk1, x_pk2, x_pk3, x_vv0, x_vv, x_vv1, x_op, x_op1, x_op2, x_ca, x_ck, x_ci, x_ci0, x_ci1, x_ci2, x_ci3, x_ci4, x_ci5, x_tup, x_tup1, x_lst, x_lst1, x_ch, x_ch1, x_ch2, x_ch3, x_ch4, x_ch5, x_asgT, x_asgT1, x_nx, x_par, x_par1, x_par2, x_par3, x_par31, x_par32, x_par33, x_tn, x_t0, x_tc, x_ts, x_ts0, x_ts1, x_up1, x_up2, x_upO, x_upI, x_app, x_app0, x_app1, x_for, x_for1, x_fl1, x_fl2, x_fl3, x_fl4, x_fl5, x_fl6, x_turn, x_its, x_its1, x_its2, x_its3, x_rg1, x_rg2, x_rg21, x_en, x_en1, x_zp, x_zp1, x_zp2, x_zp3, x_st, x_st0, x_st1, x_st2, x_st3, x_yes, x_lc2, x_rA1, x_rA2, x_rF1, x_rI1, x_rI2, x_wh1, x_wh2, x_wh3, x_wh4, x_wh5, o_add, o_sub, o_neg, o_lt, o_le, o_gt, o_ge, o_eq, o_ne, o_eqB, o_neB, o_int, o_abs, o_max, o_min, o_lenL, o_lenT, o_ix0, o_ix1, o_ixl0, o_ixl1, o_ixl2, o_isi, o_isi2, o_isN, o_notN, o_isB, o_notB, x_A0, x_F0, x_I0, x_A1, x_F1, x_I1, x_A2, x_F2, x_I2, x_A3, x_F3, x_I3, x_A4, x_F4, x_I4, x_A5, x_F5, x_I5, x_A6, x_F6, x_I6, x_A7, x_F7, x_I7, x_A8, x_F8, x_I8, x_wi0, x_wi, x_re0, x_re, x_re1, x_ok0, x_ok, x_ok1, x_ok2, o_not0, x_g0, x_gS, x_s0, x_sS, x_bs, x_bn, x_ms, x_isNnone, x_isNbool, x_isNint, x_isNstr, x_isNlist, x_isNtuple, x_isNdict, x_tyintnone, x_tyintbool, x_tyintint, x_tyintstr, x_tyintlist, x_tyinttuple, x_tyintdict, x_tyboolnone, x_tyboolbool, x_tyboolint, x_tyboolstr, x_tyboollist, x_tybooltuple, x_tybooldict, x_tystrnone, x_tystrbool, x_tystrint, x_tystrstr, x_tystrlist, x_tystrtuple, x_tystrdict, x_tytupnone, x_tytupbool, x_tytupint, x_tytupstr, x_tytuplist, x_tytuptuple, x_tytupdict, x_tylstnone, x_tylstbool, x_tylstint, x_tylststr, x_tylstlist, x_tylsttuple, x_tylstdict, x_tydctnone, x_tydctbool, x_tydctint, x_tydctstr, x_tydctlist, x_tydcttuple, x_tydctdict, x_be0, x_bn0, x_be1, x_bn1, x_be2, x_bn2, x_be3, x_bn3, List.length_cons, List.length_nil, List.map_cons, List.map_nil, List.replicate, List.cons_append, List.nil_append, List.append_nil, startE, pick, List.filterMap_cons, List.filterMap_nil, Bool.or_false, Bool.false_or, Bool.or_true, Bool.true_or, Bool.and_true, Bool.true_and, Bool.and_false, Bool.false_and, Bool.not_true, Bool.not_false, Bool.not_not, decide_true, decide_false, Int.cast_ofNat_Int, Nat.reduceAdd, Nat.zero_add, Int.reduceEq, Int.reduceLT, Int.reduceLE, Int.reduceGT, Int.reduceGE, Int.reduceAdd, Int.reduceSub, Int.reduceMul, Int.reduceNeg, Int.reducePow, Int.reduceToNat]
  · obtain ⟨y, c3, e3, y0, y1, g3⟩ := e_random (b := t) g2 (by omega) (by omega) (by omega)
    refine ⟨(y, t), c3, ?_, ⟨t0, .inr ⟨y0, y1⟩⟩, by show -12 ≤ y; omega, by show y ≤ 12; omega, t1, g3.mono (by omega)⟩
    simp only [e1, e2, e3, e, mu, x_seq, x_seq1, x_seq2, x_seq3, x_seq4, x_seq5, x_asg, x_asg1, x_asgF, x_asgF1, x_exp, x_exp1, x_ret, x_ret1, x_retF, x_retF1, x_retN, x_skip, x_brk, x_cnt, x_if, x_if1, x_if2, x_and, x_and1, x_and2, x_or, x_or1, x_or2, x_not, x_not1, x_bool, x_bool1, x_andV, x_andV1, x_andV2, x_orV, x_orV1, x_orV2, x_notV, x_notV1, x_ifV, x_ifV1, x_ifV2, x_cE, x_nm, x_nm1, x_nm2, x_rd, x_rd1, x_rd2, x_rd3, x_ev0, x_ev, x_ev1, x_ev2, x_pk, x_pk1, x_pk2, x_pk3, x_vv0, x_vv, x_vv1, x_op, x_op1, x_op2, x_ca, x_ck, x_ci, x_ci0, x_ci1, x_ci2, x_ci3, x_ci4, x_ci5, x_tup, x_tup1, x_lst, x_lst1, x_ch, x_ch1, x_ch2, x_ch3, x_ch4, x_ch5, x_asgT, x_asgT1, x_nx, x_par, x_par1, x_par2, x_par3, x_par31, x_par32, x_par33, x_tn, x_t0, x_tc, x_ts, x_ts0, x_ts1, x_up1, x_up2, x_upO, x_upI, x_app, x_app0, x_app1, x_for, x_for1, x_fl1, x_fl2, x_fl3, x_fl4, x_fl5, x_fl6, x_turn, x_its, x_its1, x_its2, x_its3, x_rg1, x_rg2, x_rg21, x_en, x_en1, x_zp, x_zp1, x_zp2, x_zp3, x_st, x_st0, x_st1, x_st2, x_st3, x_yes, x_lc2, x_rA1, x_rA2, x_rF1, x_rI1, x_rI2, x_wh1, x_wh2, x_wh3, x_wh4, x_wh5, o_add, o_sub, o_neg, o_lt, o_le, o_gt, o_ge, o_eq, o_ne, o_eqB, o_neB, o_int, o_abs, o_max, o_min, o_lenL, o_lenT, o_ix0, o_ix1, o_ixl0, o_ixl1, o_ixl2, o_isi, o_isi2, o_isN, o_notN, o_isB, o_notB, x_A0, x_F0, x_I0, x_A1, x_F1, x_I1, x_A2, x_F2, x_I2, x_A3, x_F3, x_I3, x_A4, x_F4, x_I4, x_A5, x_F5, x_I5, x_A6, x_F6, x_I6, x_A7, x_F7, x_I7, x_A8, x_F8, x_I8, x_wi0, x_wi, x_re0, x_re, x_re1, x_ok0, x_ok, x_ok1, x_ok2, o_not0, x_g0, x_gS, x_s0, x_sS, x_bs, x_bn, x_ms, x_isNnone, x_isNbool, x_isNint, x_isNstr, x_isNlist, x_isNtuple, x_isNdict, x_tyintnone, x_tyintbool, x_tyintint, x_tyintstr, x_tyintlist, x_tyinttuple, x_tyintdict, x_tyboolnone, x_tyboolbool, x_tyboolint, x_tyboolstr, x_tyboollist, x_tybooltuple, x_tybooldict, x_tystrnone, x_tystrbool, x_tystrint, x_tystrstr, x_tystrlist, x_tystrtuple, x_tystrdict, x_tytupnone, x_tytupbool, x_tytupint, x_tytupstr, x_tytuplist, x_tytuptuple, x_tytupdict, x_tylstnone, x_tylstbool, x_tylstint, x_tylststr, x_tylstlist, x_tylsttuple, x_tylstdict, x_tydctnone, x_tydctbool, x_tydctint, x_tydctstr, x_tydctlist, x_tydcttuple, x_tydctdict, x_be0, x_bn0, x_be1, x_bn1, x_be2, x_bn2, x_be3, x_bn3, List.length_cons, List.length_nil, List.map_cons, List.map_nil, List.replicate, List.cons_append, List.nil_append, List.append_nil, startE, pick, List.filterMap_cons, List.filterMap_nil, Bool.or_false, Bool.false_or, Bool.or_true, Bool.true_or, Bool.and_true, Bool.true_and, Bool.and_false, Bool.false_and, Bool.not_true, Bool.not_false, Bool.not_not, decide_true, decide_false, Int.cast_ofNat_Int, Nat.reduceAdd, Nat.zero_add, Int.reduceEq, Int.reduceLT, Int.reduceLE, Int.reduceGT, Int.reduceGE, Int.reduceAdd, Int.reduceSub, Int.reduceMul, Int.reduceNeg, Int.reducePow, Int.reduceToNat]
/-! the asked functions -/
theorem e_met (r o : Int × Int) (hr : Can r.1 r.2) (ho : Can o.1 o.2) (s1 : Sm r.1) (s2 : Sm r.2) (s3 : Sm o.1) (s4 : Sm o.2) : ∃ M, sem_rest_met [eR r, eR o] = some (eO M) ∧ IsMt r o M := by
  obtain ⟨M, e, h⟩ := e_meet r o hr.1 ho.1 s1 s2 s3 s4
  refine ⟨M, ?_, h⟩
  rw [sem_rest_met, g_rest_met]
  simp only [e_check_two hr ho, e, x_seq, x_seq1, x_seq2, x_seq3, x_seq4, x_seq5, x_asg, x_asg1, x_asgF, x_asgF1, x_exp, x_exp1, x_ret, x_ret1, x_retF, x_retF1, x_retN, x_skip, x_brk, x_cnt, x_if, x_if1, x_if2, x_and, x_and1, x_and2, x_or, x_or1, x_or2, x_not, x_not1, x_bool, x_bool1, x_andV, x_andV1, x_andV2, x_orV, x_orV1, x_orV2, x_notV, x_notV1, x_ifV, x_ifV1, x_ifV2, x_cE, x_nm, x_nm1, x_nm2, x_rd, x_rd1, x_rd2, x_rd3, x_ev0, x_ev, x_ev1, x_ev2, x_pk, x_pk1, x_pk2, x_pk3, x_vv0, x_vv, x_vv1, x_op, x_op1, x_op2, x_ca, x_ck, x_ci, x_ci0, x_ci1, x_ci2, x_ci3, x_ci4, x_ci5, x_tup, x_tup1, x_lst, x_lst1, x_ch, x_ch1, x_ch2, x_ch3, x_ch4, x_ch5, x_asgT, x_asgT1, x_nx, x_par, x_par1, x_par2, x_par3, x_par31, x_par32, x_par33, x_tn, x_t0, x_tc, x_ts, x_ts0, x_ts1, x_up1, x_up2, x_upO, x_upI, x_app, x_app0, x_app1, x_for, x_for1, x_fl1, x_fl2, x_fl3, x_fl4, x_fl5, x_fl6, x_turn, x_its, x_its1, x_its2, x_its3, x_rg1, x_rg2, x_rg21, x_en, x_en1, x_zp, x_zp1, x_zp2, x_zp3, x_st, x_st0, x_st1, x_st2, x_st3, x_yes, x_lc2, x_rA1, x_rA2, x_rF1, x_rI1, x_rI2, x_wh1, x_wh2, x_wh3, x_wh4, x_wh5, o_add, o_sub, o_neg, o_lt, o_le, o_gt, o_ge, o_eq, o_ne, o_eqB, o_neB, o_int, o_abs, o_max, o_min, o_lenL, o_lenT, o_ix0, o_ix1, o_ixl0, o_ixl1, o_ixl2, o_isi, o_isi2, o_isN, o_notN, o_isB, o_notB, x_A0, x_F0, x_I0, x_A1, x_F1, x_I1, x_A2, x_F2, x_I2, x_A3, x_F3, x_I3, x_A4, x_F4, x_I4, x_A5, x_F5, x_I5, x_A6, x_F6, x_I6, x_A7, x_F7, x_I7, x_A8, x_F8, x_I8, x_wi0, x_wi, x_re0, x_re, x_re1, x_ok0, x_ok, x_ok1, x_ok2, o_not0, x_g0, x_gS, x_s0, x_sS, x_bs, x_bn, x_ms, x_isNnone, x_isNbool, x_isNint, x_isNstr, x_isNlist, x_isNtuple, x_isNdict, x_tyintnone, x_tyintbool, x_tyintint, x_tyintstr, x_tyintlist, x_tyinttuple, x_tyintdict, x_tyboolnone, x_tyboolbool, x_tyboolint, x_tyboolstr, x_tyboollist, x_tybooltuple, x_tybooldict, x_tystrnone, x_tystrbool, x_tystrint, x_tystrstr, x_tystrlist, x_tystrtuple, x_tystrdict, x_tytupnone, x_tytupbool, x_tytupint, x_tytupstr, x_tytuplist, x_tytuptuple, x_tytupdict, x_tylstnone, x_tylstbool, x_tylstint, x_tylststr, x_tylstlist, x_tylsttuple, x_tylstdict, x_tydctnone, x_tydctbool, x_tydctint, x_tydctstr, x_tydctlist, x_tydcttuple, x_tydctdict, x_be0, x_bn0, x_be1, x_bn1, x_be2, x_bn2, x_be3, x_bn3, List.length_cons, List.length_nil, List.map_cons, List.map_nil, List.replicate, List.cons_append, List.nil_append, List.append_nil, startE, pick, List.filterMap_cons, List.filterMap_nil, Bool.or_false, Bool.false_or, Bool.or_true, Bool.true_or, Bool.and_true, Bool.true_and, Bool.and_false, Bool.false_and, Bool.not_true, Bool.not_false, Bool.not_not, decide_true, decide_false, Int.cast_ofNat_Int, Nat.reduceAdd, Nat.zero_add, Int.reduceEq, Int.reduceLT, Int.reduceLE, Int.reduceGT, Int.reduceGE, Int.reduceAdd, Int.reduceSub, Int.reduceMul, Int.reduceNeg, Int.reducePow, Int.reduceToNat]
theorem e_joined (r o : Int × Int) (hr : Can r.1 r.2) (ho : Can o.1 o.2) : sem_rest_joined [eR r, eR o] = some (eR (jn r o)) := by
  rw [sem_rest_joined, g_rest_joined]
  simp only [e_check_two hr ho, e_join r o hr.1 ho.1, x_seq, x_seq1, x_seq2, x_seq3, x_seq4, x_seq5, x_asg, x_asg1, x_asgF, x_asgF1, x_exp, x_exp1, x_ret, x_ret1, x_retF, x_retF1, x_retN, x_skip, x_brk, x_cnt, x_if, x_if1, x_if2, x_and, x_and1, x_and2, x_or, x_or1, x_or2, x_not, x_not1, x_bool, x_bool1, x_andV, x_andV1, x_andV2, x_orV, x_orV1, x_orV2, x_notV, x_notV1, x_ifV, x_ifV1, x_ifV2, x_cE, x_nm, x_nm1, x_nm2, x_rd, x_rd1, x_rd2, x_rd3, x_ev0, x_ev, x_ev1, x_ev2, x_pk, x_pk1, x_pk2, x_pk3, x_vv0, x_vv, x_vv1, x_op, x_op1, x_op2, x_ca, x_ck, x_ci, x_ci0, x_ci1, x_ci2, x_ci3, x_ci4, x_ci5, x_tup, x_tup1, x_lst, x_lst1, x_ch, x_ch1, x_ch2, x_ch3, x_ch4, x_ch5, x_asgT, x_asgT1, x_nx, x_par, x_par1, x_par2, x_par3, x_par31, x_par32, x_par33, x_tn, x_t0, x_tc, x_ts, x_ts0, x_ts1, x_up1, x_up2, x_upO, x_upI, x_app, x_app0, x_app1, x_for, x_for1, x_fl1, x_fl2, x_fl3, x_fl4, x_fl5, x_fl6, x_turn, x_its, x_its1, x_its2, x_its3, x_rg1, x_rg2, x_rg21, x_en, x_en1, x_zp, x_zp1, x_zp2, x_zp3, x_st, x_st0, x_st1, x_st2, x_st3, x_yes, x_lc2, x_rA1, x_rA2, x_rF1, x_rI1, x_rI2, x_wh1, x_wh2, x_wh3, x_wh4, x_wh5, o_add, o_sub, o_neg, o_lt, o_le, o_gt, o_ge, o_eq, o_ne, o_eqB, o_neB, o_int, o_abs, o_max, o_min, o_lenL, o_lenT, o_ix0, o_ix1, o_ixl0, o_ixl1, o_ixl2, o_isi, o_isi2, o_isN, o_notN, o_isB, o_notB, x_A0, x_F0, x_I0, x_A1, x_F1, x_I1, x_A2, x_F2, x_I2, x_A3, x_F3, x_I3, x_A4, x_F4, x_I4, x_A5, x_F5, x_I5, x_A6, x_F6, x_I6, x_A7, x_F7, x_I7, x_A8, x_F8, x_I8, x_wi0, x_wi, x_re0, x_re, x_re1, x_ok0, x_ok, x_ok1, x_ok2, o_not0, x_g0, x_gS, x_s0, x_sS, x_bs, x_bn, x_ms, x_isNnone, x_isNbool, x_isNint, x_isNstr, x_isNlist, x_isNtuple, x_isNdict, x_tyintnone, x_tyintbool, x_tyintint, x_tyintstr, x_tyintlist, x_tyinttuple, x_tyintdict, x_tyboolnone, x_tyboolbool, x_tyboolint, x_tyboolstr, x_tyboollist, x_tybooltuple, x_tybooldict, x_tystrnone, x_tystrbool, x_tystrint, x_tystrstr, x_tystrlist, x_tystrtuple, x_tystrdict, x_tytupnone, x_tytupbool, x_tytupint, x_tytupstr, x_tytuplist, x_tytuptuple, x_tytupdict, x_tylstnone, x_tylstbool, x_tylstint, x_tylststr, x_tylstlist, x_tylsttuple, x_tylstdict, x_tydctnone, x_tydctbool, x_tydctint, x_tydctstr, x_tydctlist, x_tydcttuple, x_tydctdict, x_be0, x_bn0, x_be1, x_bn1, x_be2, x_bn2, x_be3, x_bn3, List.length_cons, List.length_nil, List.map_cons, List.map_nil, List.replicate, List.cons_append, List.nil_append, List.append_nil, startE, pick, List.filterMap_cons, List.filterMap_nil, Bool.or_false, Bool.false_or, Bool.or_true, Bool.true_or, Bool.and_true, Bool.true_and, Bool.and_false, Bool.false_and, Bool.not_true, Bool.not_false, Bool.not_not, decide_true, decide_false, Int.cast_ofNat_Int, Nat.reduceAdd, Nat.zero_add, Int.reduceEq, Int.reduceLT, Int.reduceLE, Int.reduceGT, Int.reduceGE, Int.reduceAdd, Int.reduceSub, Int.reduceMul, Int.reduceNeg, Int.reducePow, Int.reduceToNat]
theorem e_plus (r : Int × Int) (n : Int) (hr : Can r.1 r.2) : sem_rest_plus [eR r, .int n] = some (eR (fr (r.1 + n) r.2)) := by
  rw [sem_rest_plus, g_rest_plus]
  have e1 : sem_move_rest [eR r, .int n] = some (eR (fr (r.1 + n) r.2)) := by
    rw [sem_move_rest, g_move_rest]
    simp only [e_rest_from _ hr.1, x_seq, x_seq1, x_seq2, x_seq3, x_seq4, x_seq5, x_asg, x_asg1, x_asgF, x_asgF1, x_exp, x_exp1, x_ret, x_ret1, x_retF, x_retF1, x_retN, x_skip, x_brk, x_cnt, x_if, x_if1, x_if2, x_and, x_and1, x_and2, x_or, x_or1, x_or2, x_not, x_not1, x_bool, x_bool1, x_andV, x_andV1, x_andV2, x_orV, x_orV1, x_orV2, x_notV, x_notV1, x_ifV, x_ifV1, x_ifV2, x_cE, x_nm, x_nm1, x_nm2, x_rd, x_rd1, x_rd2, x_rd3, x_ev0, x_ev, x_ev1, x_ev2, x_pk, x_pk1, x_pk2, x_pk3, x_vv0, x_vv, x_vv1, x_op, x_op1, x_op2, x_ca, x_ck, x_ci, x_ci0, x_ci1, x_ci2, x_ci3, x_ci4, x_ci5, x_tup, x_tup1, x_lst, x_lst1, x_ch, x_ch1, x_ch2, x_ch3, x_ch4, x_ch5, x_asgT, x_asgT1, x_nx, x_par, x_par1, x_par2, x_par3, x_par31, x_par32, x_par33, x_tn, x_t0, x_tc, x_ts, x_ts0, x_ts1, x_up1, x_up2, x_upO, x_upI, x_app, x_app0, x_app1, x_for, x_for1, x_fl1, x_fl2, x_fl3, x_fl4, x_fl5, x_fl6, x_turn, x_its, x_its1, x_its2, x_its3, x_rg1, x_rg2, x_rg21, x_en, x_en1, x_zp, x_zp1, x_zp2, x_zp3, x_st, x_st0, x_st1, x_st2, x_st3, x_yes, x_lc2, x_rA1, x_rA2, x_rF1, x_rI1, x_rI2, x_wh1, x_wh2, x_wh3, x_wh4, x_wh5, o_add, o_sub, o_neg, o_lt, o_le, o_gt, o_ge, o_eq, o_ne, o_eqB, o_neB, o_int, o_abs, o_max, o_min, o_lenL, o_lenT, o_ix0, o_ix1, o_ixl0, o_ixl1, o_ixl2, o_isi, o_isi2, o_isN, o_notN, o_isB, o_notB, x_A0, x_F0, x_I0, x_A1, x_F1, x_I1, x_A2, x_F2, x_I2, x_A3, x_F3, x_I3, x_A4, x_F4, x_I4, x_A5, x_F5, x_I5, x_A6, x_F6, x_I6, x_A7, x_F7, x_I7, x_A8, x_F8, x_I8, x_wi0, x_wi, x_re0, x_re, x_re1, x_ok0, x_ok, x_ok1, x_ok2, o_not0, x_g0, x_gS, x_s0, x_sS, x_bs, x_bn, x_ms, x_isNnone, x_isNbool, x_isNint, x_isNstr, x_isNlist, x_isNtuple, x_isNdict, x_tyintnone, x_tyintbool, x_tyintint, x_tyintstr, x_tyintlist, x_tyinttuple, x_tyintdict, x_tyboolnone, x_tyboolbool, x_tyboolint, x_tyboolstr, x_tyboollist, x_tybooltuple, x_tybooldict, x_tystrnone, x_tystrbool, x_tystrint, x_tystrstr, x_tystrlist, x_tystrtuple, x_tystrdict, x_tytupnone, x_tytupbool, x_tytupint, x_tytupstr, x_tytuplist, x_tytuptuple, x_tytupdict, x_tylstnone, x_tylstbool, x_tylstint, x_tylststr, x_tylstlist, x_tylsttuple, x_tylstdict, x_tydctnone, x_tydctbool, x_tydctint, x_tydctstr, x_tydctlist, x_tydcttuple, x_tydctdict, x_be0, x_bn0, x_be1, x_bn1, x_be2, x_bn2, x_be3, x_bn3, List.length_cons, List.length_nil, List.map_cons, List.map_nil, List.replicate, List.cons_append, List.nil_append, List.append_nil, startE, pick, List.filterMap_cons, List.filterMap_nil, Bool.or_false, Bool.false_or, Bool.or_true, Bool.true_or, Bool.and_true, Bool.true_and, Bool.and_false, Bool.false_and, Bool.not_true, Bool.not_false, Bool.not_not, decide_true, decide_false, Int.cast_ofNat_Int, Nat.reduceAdd, Nat.zero_add, Int.reduceEq, Int.reduceLT, Int.reduceLE, Int.reduceGT, Int.reduceGE, Int.reduceAdd, Int.reduceSub, Int.reduceMul, Int.reduceNeg, Int.reducePow, Int.reduceToNat]
  simp only [e_check_number hr, e1, x_seq, x_seq1, x_seq2, x_seq3, x_seq4, x_seq5, x_asg, x_asg1, x_asgF, x_asgF1, x_exp, x_exp1, x_ret, x_ret1, x_retF, x_retF1, x_retN, x_skip, x_brk, x_cnt, x_if, x_if1, x_if2, x_and, x_and1, x_and2, x_or, x_or1, x_or2, x_not, x_not1, x_bool, x_bool1, x_andV, x_andV1, x_andV2, x_orV, x_orV1, x_orV2, x_notV, x_notV1, x_ifV, x_ifV1, x_ifV2, x_cE, x_nm, x_nm1, x_nm2, x_rd, x_rd1, x_rd2, x_rd3, x_ev0, x_ev, x_ev1, x_ev2, x_pk, x_pk1, x_pk2, x_pk3, x_vv0, x_vv, x_vv1, x_op, x_op1, x_op2, x_ca, x_ck, x_ci, x_ci0, x_ci1, x_ci2, x_ci3, x_ci4, x_ci5, x_tup, x_tup1, x_lst, x_lst1, x_ch, x_ch1, x_ch2, x_ch3, x_ch4, x_ch5, x_asgT, x_asgT1, x_nx, x_par, x_par1, x_par2, x_par3, x_par31, x_par32, x_par33, x_tn, x_t0, x_tc, x_ts, x_ts0, x_ts1, x_up1, x_up2, x_upO, x_upI, x_app, x_app0, x_app1, x_for, x_for1, x_fl1, x_fl2, x_fl3, x_fl4, x_fl5, x_fl6, x_turn, x_its, x_its1, x_its2, x_its3, x_rg1, x_rg2, x_rg21, x_en, x_en1, x_zp, x_zp1, x_zp2, x_zp3, x_st, x_st0, x_st1, x_st2, x_st3, x_yes, x_lc2, x_rA1, x_rA2, x_rF1, x_rI1, x_rI2, x_wh1, x_wh2, x_wh3, x_wh4, x_wh5, o_add, o_sub, o_neg, o_lt, o_le, o_gt, o_ge, o_eq, o_ne, o_eqB, o_neB, o_int, o_abs, o_max, o_min, o_lenL, o_lenT, o_ix0, o_ix1, o_ixl0, o_ixl1, o_ixl2, o_isi, o_isi2, o_isN, o_notN, o_isB, o_notB, x_A0, x_F0, x_I0, x_A1, x_F1, x_I1, x_A2, x_F2, x_I2, x_A3, x_F3, x_I3, x_A4, x_F4, x_I4, x_A5, x_F5, x_I5, x_A6, x_F6, x_I6, x_A7, x_F7, x_I7, x_A8, x_F8, x_I8, x_wi0, x_wi, x_re0, x_re, x_re1, x_ok0, x_ok, x_ok1, x_ok2, o_not0, x_g0, x_gS, x_s0, x_sS, x_bs, x_bn, x_ms, x_isNnone, x_isNbool, x_isNint, x_isNstr, x_isNlist, x_isNtuple, x_isNdict, x_tyintnone, x_tyintbool, x_tyintint, x_tyintstr, x_tyintlist, x_tyinttuple, x_tyintdict, x_tyboolnone, x_tyboolbool, x_tyboolint, x_tyboolstr, x_tyboollist, x_tybooltuple, x_tybooldict, x_tystrnone, x_tystrbool, x_tystrint, x_tystrstr, x_tystrlist, x_tystrtuple, x_tystrdict, x_tytupnone, x_tytupbool, x_tytupint, x_tytupstr, x_tytuplist, x_tytuptuple, x_tytupdict, x_tylstnone, x_tylstbool, x_tylstint, x_tylststr, x_tylstlist, x_tylsttuple, x_tylstdict, x_tydctnone, x_tydctbool, x_tydctint, x_tydctstr, x_tydctlist, x_tydcttuple, x_tydctdict, x_be0, x_bn0, x_be1, x_bn1, x_be2, x_bn2, x_be3, x_bn3, List.length_cons, List.length_nil, List.map_cons, List.map_nil, List.replicate, List.cons_append, List.nil_append, List.append_nil, startE, pick, List.filterMap_cons, List.filterMap_nil, Bool.or_false, Bool.false_or, Bool.or_true, Bool.true_or, Bool.and_true, Bool.true_and, Bool.and_false, Bool.false_and, Bool.not_true, Bool.not_false, Bool.not_not, decide_true, decide_false, Int.cast_ofNat_Int, Nat.reduceAdd, Nat.zero_add, Int.reduceEq, Int.reduceLT, Int.reduceLE, Int.reduceGT, Int.reduceGE, Int.reduceAdd, Int.reduceSub, Int.reduceMul, Int.reduceNeg, Int.reducePow, Int.reduceToNat]
theorem e_turned (r : Int × Int) (n : Int) (hr : Can r.1 r.2) : sem_rest_turned [eR r, .int n] = some (eR (fr (n - r.1) r.2)) := by
  rw [sem_rest_turned, g_rest_turned]
  have e1 : sem_turn_rest [eR r, .int n] = some (eR (fr (n - r.1) r.2)) := by
    rw [sem_turn_rest, g_turn_rest]
    simp only [e_rest_from _ hr.1, x_seq, x_seq1, x_seq2, x_seq3, x_seq4, x_seq5, x_asg, x_asg1, x_asgF, x_asgF1, x_exp, x_exp1, x_ret, x_ret1, x_retF, x_retF1, x_retN, x_skip, x_brk, x_cnt, x_if, x_if1, x_if2, x_and, x_and1, x_and2, x_or, x_or1, x_or2, x_not, x_not1, x_bool, x_bool1, x_andV, x_andV1, x_andV2, x_orV, x_orV1, x_orV2, x_notV, x_notV1, x_ifV, x_ifV1, x_ifV2, x_cE, x_nm, x_nm1, x_nm2, x_rd, x_rd1, x_rd2, x_rd3, x_ev0, x_ev, x_ev1, x_ev2, x_pk, x_pk1, x_pk2, x_pk3, x_vv0, x_vv, x_vv1, x_op, x_op1, x_op2, x_ca, x_ck, x_ci, x_ci0, x_ci1, x_ci2, x_ci3, x_ci4, x_ci5, x_tup, x_tup1, x_lst, x_lst1, x_ch, x_ch1, x_ch2, x_ch3, x_ch4, x_ch5, x_asgT, x_asgT1, x_nx, x_par, x_par1, x_par2, x_par3, x_par31, x_par32, x_par33, x_tn, x_t0, x_tc, x_ts, x_ts0, x_ts1, x_up1, x_up2, x_upO, x_upI, x_app, x_app0, x_app1, x_for, x_for1, x_fl1, x_fl2, x_fl3, x_fl4, x_fl5, x_fl6, x_turn, x_its, x_its1, x_its2, x_its3, x_rg1, x_rg2, x_rg21, x_en, x_en1, x_zp, x_zp1, x_zp2, x_zp3, x_st, x_st0, x_st1, x_st2, x_st3, x_yes, x_lc2, x_rA1, x_rA2, x_rF1, x_rI1, x_rI2, x_wh1, x_wh2, x_wh3, x_wh4, x_wh5, o_add, o_sub, o_neg, o_lt, o_le, o_gt, o_ge, o_eq, o_ne, o_eqB, o_neB, o_int, o_abs, o_max, o_min, o_lenL, o_lenT, o_ix0, o_ix1, o_ixl0, o_ixl1, o_ixl2, o_isi, o_isi2, o_isN, o_notN, o_isB, o_notB, x_A0, x_F0, x_I0, x_A1, x_F1, x_I1, x_A2, x_F2, x_I2, x_A3, x_F3, x_I3, x_A4, x_F4, x_I4, x_A5, x_F5, x_I5, x_A6, x_F6, x_I6, x_A7, x_F7, x_I7, x_A8, x_F8, x_I8, x_wi0, x_wi, x_re0, x_re, x_re1, x_ok0, x_ok, x_ok1, x_ok2, o_not0, x_g0, x_gS, x_s0, x_sS, x_bs, x_bn, x_ms, x_isNnone, x_isNbool, x_isNint, x_isNstr, x_isNlist, x_isNtuple, x_isNdict, x_tyintnone, x_tyintbool, x_tyintint, x_tyintstr, x_tyintlist, x_tyinttuple, x_tyintdict, x_tyboolnone, x_tyboolbool, x_tyboolint, x_tyboolstr, x_tyboollist, x_tybooltuple, x_tybooldict, x_tystrnone, x_tystrbool, x_tystrint, x_tystrstr, x_tystrlist, x_tystrtuple, x_tystrdict, x_tytupnone, x_tytupbool, x_tytupint, x_tytupstr, x_tytuplist, x_tytuptuple, x_tytupdict, x_tylstnone, x_tylstbool, x_tylstint, x_tylststr, x_tylstlist, x_tylsttuple, x_tylstdict, x_tydctnone, x_tydctbool, x_tydctint, x_tydctstr, x_tydctlist, x_tydcttuple, x_tydctdict, x_be0, x_bn0, x_be1, x_bn1, x_be2, x_bn2, x_be3, x_bn3, List.length_cons, List.length_nil, List.map_cons, List.map_nil, List.replicate, List.cons_append, List.nil_append, List.append_nil, startE, pick, List.filterMap_cons, List.filterMap_nil, Bool.or_false, Bool.false_or, Bool.or_true, Bool.true_or, Bool.and_true, Bool.true_and, Bool.and_false, Bool.false_and, Bool.not_true, Bool.not_false, Bool.not_not, decide_true, decide_false, Int.cast_ofNat_Int, Nat.reduceAdd, Nat.zero_add, Int.reduceEq, Int.reduceLT, Int.reduceLE, Int.reduceGT, Int.reduceGE, Int.reduceAdd, Int.reduceSub, Int.reduceMul, Int.reduceNeg, Int.reducePow, Int.reduceToNat]
  simp only [e_check_number hr, e1, x_seq, x_seq1, x_seq2, x_seq3, x_seq4, x_seq5, x_asg, x_asg1, x_asgF, x_asgF1, x_exp, x_exp1, x_ret, x_ret1, x_retF, x_retF1, x_retN, x_skip, x_brk, x_cnt, x_if, x_if1, x_if2, x_and, x_and1, x_and2, x_or, x_or1, x_or2, x_not, x_not1, x_bool, x_bool1, x_andV, x_andV1, x_andV2, x_orV, x_orV1, x_orV2, x_notV, x_notV1, x_ifV, x_ifV1, x_ifV2, x_cE, x_nm, x_nm1, x_nm2, x_rd, x_rd1, x_rd2, x_rd3, x_ev0, x_ev, x_ev1, x_ev2, x_pk, x_pk1, x_pk2, x_pk3, x_vv0, x_vv, x_vv1, x_op, x_op1, x_op2, x_ca, x_ck, x_ci, x_ci0, x_ci1, x_ci2, x_ci3, x_ci4, x_ci5, x_tup, x_tup1, x_lst, x_lst1, x_ch, x_ch1, x_ch2, x_ch3, x_ch4, x_ch5, x_asgT, x_asgT1, x_nx, x_par, x_par1, x_par2, x_par3, x_par31, x_par32, x_par33, x_tn, x_t0, x_tc, x_ts, x_ts0, x_ts1, x_up1, x_up2, x_upO, x_upI, x_app, x_app0, x_app1, x_for, x_for1, x_fl1, x_fl2, x_fl3, x_fl4, x_fl5, x_fl6, x_turn, x_its, x_its1, x_its2, x_its3, x_rg1, x_rg2, x_rg21, x_en, x_en1, x_zp, x_zp1, x_zp2, x_zp3, x_st, x_st0, x_st1, x_st2, x_st3, x_yes, x_lc2, x_rA1, x_rA2, x_rF1, x_rI1, x_rI2, x_wh1, x_wh2, x_wh3, x_wh4, x_wh5, o_add, o_sub, o_neg, o_lt, o_le, o_gt, o_ge, o_eq, o_ne, o_eqB, o_neB, o_int, o_abs, o_max, o_min, o_lenL, o_lenT, o_ix0, o_ix1, o_ixl0, o_ixl1, o_ixl2, o_isi, o_isi2, o_isN, o_notN, o_isB, o_notB, x_A0, x_F0, x_I0, x_A1, x_F1, x_I1, x_A2, x_F2, x_I2, x_A3, x_F3, x_I3, x_A4, x_F4, x_I4, x_A5, x_F5, x_I5, x_A6, x_F6, x_I6, x_A7, x_F7, x_I7, x_A8, x_F8, x_I8, x_wi0, x_wi, x_re0, x_re, x_re1, x_ok0, x_ok, x_ok1, x_ok2, o_not0, x_g0, x_gS, x_s0, x_sS, x_bs, x_bn, x_ms, x_isNnone, x_isNbool, x_isNint, x_isNstr, x_isNlist, x_isNtuple, x_isNdict, x_tyintnone, x_tyintbool, x_tyintint, x_tyintstr, x_tyintlist, x_tyinttuple, x_tyintdict, x_tyboolnone, x_tyboolbool, x_tyboolint, x_tyboolstr, x_tyboollist, x_tybooltuple, x_tybooldict, x_tystrnone, x_tystrbool, x_tystrint, x_tystrstr, x_tystrlist, x_tystrtuple, x_tystrdict, x_tytupnone, x_tytupbool, x_tytupint, x_tytupstr, x_tytuplist, x_tytuptuple, x_tytupdict, x_tylstnone, x_tylstbool, x_tylstint, x_tylststr, x_tylstlist, x_tylsttuple, x_tylstdict, x_tydctnone, x_tydctbool, x_tydctint, x_tydctstr, x_tydctlist, x_tydcttuple, x_tydctdict, x_be0, x_bn0, x_be1, x_bn1, x_be2, x_bn2, x_be3, x_bn3, List.length_cons, List.length_nil, List.map_cons, List.map_nil, List.replicate, List.cons_append, List.nil_append, List.append_nil, startE, pick, List.filterMap_cons, List.filterMap_nil, Bool.or_false, Bool.false_or, Bool.or_true, Bool.true_or, Bool.and_true, Bool.true_and, Bool.and_false, Bool.false_and, Bool.not_true, Bool.not_false, Bool.not_not, decide_true, decide_false, Int.cast_ofNat_Int, Nat.reduceAdd, Nat.zero_add, Int.reduceEq, Int.reduceLT, Int.reduceLE, Int.reduceGT, Int.reduceGE, Int.reduceAdd, Int.reduceSub, Int.reduceMul, Int.reduceNeg, Int.reducePow, Int.reduceToNat]
theorem e_holds (r : Int × Int) (n : Int) (hr : Can r.1 r.2) : sem_rest_holds [eR r, .int n] = some (.bool (inQ r.1 r.2 n)) := by
  rw [sem_rest_holds, g_rest_holds]
  simp only [e_check_number hr, e_in_rest r.1 n hr.1, x_seq, x_seq1, x_seq2, x_seq3, x_seq4, x_seq5, x_asg, x_asg1, x_asgF, x_asgF1, x_exp, x_exp1, x_ret, x_ret1, x_retF, x_retF1, x_retN, x_skip, x_brk, x_cnt, x_if, x_if1, x_if2, x_and, x_and1, x_and2, x_or, x_or1, x_or2, x_not, x_not1, x_bool, x_bool1, x_andV, x_andV1, x_andV2, x_orV, x_orV1, x_orV2, x_notV, x_notV1, x_ifV, x_ifV1, x_ifV2, x_cE, x_nm, x_nm1, x_nm2, x_rd, x_rd1, x_rd2, x_rd3, x_ev0, x_ev, x_ev1, x_ev2, x_pk, x_pk1, x_pk2, x_pk3, x_vv0, x_vv, x_vv1, x_op, x_op1, x_op2, x_ca, x_ck, x_ci, x_ci0, x_ci1, x_ci2, x_ci3, x_ci4, x_ci5, x_tup, x_tup1, x_lst, x_lst1, x_ch, x_ch1, x_ch2, x_ch3, x_ch4, x_ch5, x_asgT, x_asgT1, x_nx, x_par, x_par1, x_par2, x_par3, x_par31, x_par32, x_par33, x_tn, x_t0, x_tc, x_ts, x_ts0, x_ts1, x_up1, x_up2, x_upO, x_upI, x_app, x_app0, x_app1, x_for, x_for1, x_fl1, x_fl2, x_fl3, x_fl4, x_fl5, x_fl6, x_turn, x_its, x_its1, x_its2, x_its3, x_rg1, x_rg2, x_rg21, x_en, x_en1, x_zp, x_zp1, x_zp2, x_zp3, x_st, x_st0, x_st1, x_st2, x_st3, x_yes, x_lc2, x_rA1, x_rA2, x_rF1, x_rI1, x_rI2, x_wh1, x_wh2, x_wh3, x_wh4, x_wh5, o_add, o_sub, o_neg, o_lt, o_le, o_gt, o_ge, o_eq, o_ne, o_eqB, o_neB, o_int, o_abs, o_max, o_min, o_lenL, o_lenT, o_ix0, o_ix1, o_ixl0, o_ixl1, o_ixl2, o_isi, o_isi2, o_isN, o_notN, o_isB, o_notB, x_A0, x_F0, x_I0, x_A1, x_F1, x_I1, x_A2, x_F2, x_I2, x_A3, x_F3, x_I3, x_A4, x_F4, x_I4, x_A5, x_F5, x_I5, x_A6, x_F6, x_I6, x_A7, x_F7, x_I7, x_A8, x_F8, x_I8, x_wi0, x_wi, x_re0, x_re, x_re1, x_ok0, x_ok, x_ok1, x_ok2, o_not0, x_g0, x_gS, x_s0, x_sS, x_bs, x_bn, x_ms, x_isNnone, x_isNbool, x_isNint, x_isNstr, x_isNlist, x_isNtuple, x_isNdict, x_tyintnone, x_tyintbool, x_tyintint, x_tyintstr, x_tyintlist, x_tyinttuple, x_tyintdict, x_tyboolnone, x_tyboolbool, x_tyboolint, x_tyboolstr, x_tyboollist, x_tybooltuple, x_tybooldict, x_tystrnone, x_tystrbool, x_tystrint, x_tystrstr, x_tystrlist, x_tystrtuple, x_tystrdict, x_tytupnone, x_tytupbool, x_tytupint, x_tytupstr, x_tytuplist, x_tytuptuple, x_tytupdict, x_tylstnone, x_tylstbool, x_tylstint, x_tylststr, x_tylstlist, x_tylsttuple, x_tylstdict, x_tydctnone, x_tydctbool, x_tydctint, x_tydctstr, x_tydctlist, x_tydcttuple, x_tydctdict, x_be0, x_bn0, x_be1, x_bn1, x_be2, x_bn2, x_be3, x_bn3, List.length_cons, List.length_nil, List.map_cons, List.map_nil, List.replicate, List.cons_append, List.nil_append, List.append_nil, startE, pick, List.filterMap_cons, List.filterMap_nil, Bool.or_false, Bool.false_or, Bool.or_true, Bool.true_or, Bool.and_true, Bool.true_and, Bool.and_false, Bool.false_and, Bool.not_true, Bool.not_false, Bool.not_not, decide_true, decide_false, Int.cast_ofNat_Int, Nat.reduceAdd, Nat.zero_add, Int.reduceEq, Int.reduceLT, Int.reduceLE, Int.reduceGT, Int.reduceGE, Int.reduceAdd, Int.reduceSub, Int.reduceMul, Int.reduceNeg, Int.reducePow, Int.reduceToNat]
/-- r lies within o -/
def subQ (r o : Int × Int) : Bool := if o.2 = 0 then decide (r = o) else inQ o.1 o.2 r.1 && decide (r.2 % o.2 = 0)
theorem subQ_iff {r o : Int × Int} (hr : Can r.1 r.2) (ho : Can o.1 o.2) : subQ r o = true ↔ Sbs r.1 r.2 o.1 o.2 := by
  obtain ⟨f, s⟩ := r
  obtain ⟨g, t⟩ := o
  unfold subQ Sbs
  simp only at hr ho ⊢
  by_cases e : t = 0
  · subst e
    rw [if_pos rfl, decide_eq_true_iff]
    constructor
    · intro h
      cases h
      exact ⟨⟨0, by omega⟩, ⟨0, by omega⟩⟩
    · rintro ⟨h1, h2⟩
      have := zero_dvd' h1
      have := zero_dvd' h2
      subst this
      rw [show f = g by omega]
  · rw [if_neg e, Bool.and_eq_true, inQ_iff, decide_eq_true_iff]
    exact ⟨fun h => ⟨h.1, Int.dvd_of_emod_eq_zero h.2⟩, fun h => ⟨h.1, Int.emod_eq_zero_of_dvd h.2⟩⟩
theorem o_eqR (r o : Int × Int) : eqD [.tuple [.int r.1, .int r.2], .tuple [.int o.1, .int o.2]] = some (.bool (decide (r = o))) := by
  show some (PyData.bool ((r.1 == o.1) && ((r.2 == o.2) && true))) = _
  congr 2
  rw [Bool.and_true, beq_dec, beq_dec]
  by_cases h : r = o
  · subst h; simp
  · rw [decide_eq_false h]
    cases h1 : decide (r.1 = o.1) with
    | false => rfl
    | true =>
      rw [Bool.true_and, decide_eq_false]
      intro h2
      exact h (Prod.ext (of_decide_eq_true h1) h2)
theorem e_within (r o : Int × Int) (hr : Can r.1 r.2) (ho : Can o.1 o.2) : sem_rest_within [eR r, eR o] = some (.bool (subQ r o)) := by
  have e1 : sem_within_rest [eR r, eR o] = some (.bool (subQ r o)) := by
    rw [sem_within_rest, g_within_rest]
    unfold subQ
    by_cases e : o.2 = 0
    · simp only [e, x_seq, x_seq1, x_seq2, x_seq3, x_seq4, x_seq5, x_asg, x_asg1, x_asgF, x_asgF1, x_exp, x_exp1, x_ret, x_ret1, x_retF, x_retF1, x_retN, x_skip, x_brk, x_cnt, x_if, x_if1, x_if2, x_and, x_and1, x_and2, x_or, x_or1, x_or2, x_not, x_not1, x_bool, x_bool1, x_andV, x_andV1, x_andV2, x_orV, x_orV1, x_orV2, x_notV, x_notV1, x_ifV, x_ifV1, x_ifV2, x_cE, x_nm, x_nm1, x_nm2, x_rd, x_rd1, x_rd2, x_rd3, x_ev0, x_ev, x_ev1, x_ev2, x_pk, x_pk1, x_pk2, x_pk3, x_vv0, x_vv, x_vv1, x_op, x_op1, x_op2, x_ca, x_ck, x_ci, x_ci0, x_ci1, x_ci2, x_ci3, x_ci4, x_ci5, x_tup, x_tup1, x_lst, x_lst1, x_ch, x_ch1, x_ch2, x_ch3, x_ch4, x_ch5, x_asgT, x_asgT1, x_nx, x_par, x_par1, x_par2, x_par3, x_par31, x_par32, x_par33, x_tn, x_t0, x_tc, x_ts, x_ts0, x_ts1, x_up1, x_up2, x_upO, x_upI, x_app, x_app0, x_app1, x_for, x_for1, x_fl1, x_fl2, x_fl3, x_fl4, x_fl5, x_fl6, x_turn, x_its, x_its1, x_its2, x_its3, x_rg1, x_rg2, x_rg21, x_en, x_en1, x_zp, x_zp1, x_zp2, x_zp3, x_st, x_st0, x_st1, x_st2, x_st3, x_yes, x_lc2, x_rA1, x_rA2, x_rF1, x_rI1, x_rI2, x_wh1, x_wh2, x_wh3, x_wh4, x_wh5, o_add, o_sub, o_neg, o_lt, o_le, o_gt, o_ge, o_eq, o_ne, o_eqB, o_neB, o_int, o_abs, o_max, o_min, o_lenL, o_lenT, o_ix0, o_ix1, o_ixl0, o_ixl1, o_ixl2, o_isi, o_isi2, o_isN, o_notN, o_isB, o_notB, x_A0, x_F0, x_I0, x_A1, x_F1, x_I1, x_A2, x_F2, x_I2, x_A3, x_F3, x_I3, x_A4, x_F4, x_I4, x_A5, x_F5, x_I5, x_A6, x_F6, x_I6, x_A7, x_F7, x_I7, x_A8, x_F8, x_I8, x_wi0, x_wi, x_re0, x_re, x_re1, x_ok0, x_ok, x_ok1, x_ok2, o_not0, x_g0, x_gS, x_s0, x_sS, x_bs, x_bn, x_ms, x_isNnone, x_isNbool, x_isNint, x_isNstr, x_isNlist, x_isNtuple, x_isNdict, x_tyintnone, x_tyintbool, x_tyintint, x_tyintstr, x_tyintlist, x_tyinttuple, x_tyintdict, x_tyboolnone, x_tyboolbool, x_tyboolint, x_tyboolstr, x_tyboollist, x_tybooltuple, x_tybooldict, x_tystrnone, x_tystrbool, x_tystrint, x_tystrstr, x_tystrlist, x_tystrtuple, x_tystrdict, x_tytupnone, x_tytupbool, x_tytupint, x_tytupstr, x_tytuplist, x_tytuptuple, x_tytupdict, x_tylstnone, x_tylstbool, x_tylstint, x_tylststr, x_tylstlist, x_tylsttuple, x_tylstdict, x_tydctnone, x_tydctbool, x_tydctint, x_tydctstr, x_tydctlist, x_tydcttuple, x_tydctdict, x_be0, x_bn0, x_be1, x_bn1, x_be2, x_bn2, x_be3, x_bn3, List.length_cons, List.length_nil, List.map_cons, List.map_nil, List.replicate, List.cons_append, List.nil_append, List.append_nil, startE, pick, List.filterMap_cons, List.filterMap_nil, Bool.or_false, Bool.false_or, Bool.or_true, Bool.true_or, Bool.and_true, Bool.true_and, Bool.and_false, Bool.false_and, Bool.not_true, Bool.not_false, Bool.not_not, decide_true, decide_false, Int.cast_ofNat_Int, Nat.reduceAdd, Nat.zero_add, Int.reduceEq, Int.reduceLT, Int.reduceLE, Int.reduceGT, Int.reduceGE, Int.reduceAdd, Int.reduceSub, Int.reduceMul, Int.reduceNeg, Int.reducePow, Int.reduceToNat]
      rw [← e]
      simp only [o_eqR, if_true, x_seq, x_seq1, x_seq2, x_seq3, x_seq4, x_seq5, x_asg, x_asg1, x_asgF, x_asgF1, x_exp, x_exp1, x_ret, x_ret1, x_retF, x_retF1, x_retN, x_skip, x_brk, x_cnt, x_if, x_if1, x_if2, x_and, x_and1, x_and2, x_or, x_or1, x_or2, x_not, x_not1, x_bool, x_bool1, x_andV, x_andV1, x_andV2, x_orV, x_orV1, x_orV2, x_notV, x_notV1, x_ifV, x_ifV1, x_ifV2, x_cE, x_nm, x_nm1, x_nm2, x_rd, x_rd1, x_rd2, x_rd3, x_ev0, x_ev, x_ev1, x_ev2, x_pk, x_pk1, x_pk2, x_pk3, x_vv0, x_vv, x_vv1, x_op, x_op1, x_op2, x_ca, x_ck, x_ci, x_ci0, x_ci1, x_ci2, x_ci3, x_ci4, x_ci5, x_tup, x_tup1, x_lst, x_lst1, x_ch, x_ch1, x_ch2, x_ch3, x_ch4, x_ch5, x_asgT, x_asgT1, x_nx, x_par, x_par1, x_par2, x_par3, x_par31, x_par32, x_par33, x_tn, x_t0, x_tc, x_ts, x_ts0, x_ts1, x_up1, x_up2, x_upO, x_upI, x_app, x_app0, x_app1, x_for, x_for1, x_fl1, x_fl2, x_fl3, x_fl4, x_fl5, x_fl6, x_turn, x_its, x_its1, x_its2, x_its3, x_rg1, x_rg2, x_rg21, x_en, x_en1, x_zp, x_zp1, x_zp2, x_zp3, x_st, x_st0, x_st1, x_st2, x_st3, x_yes, x_lc2, x_rA1, x_rA2, x_rF1, x_rI1, x_rI2, x_wh1, x_wh2, x_wh3, x_wh4, x_wh5, o_add, o_sub, o_neg, o_lt, o_le, o_gt, o_ge, o_eq, o_ne, o_eqB, o_neB, o_int, o_abs, o_max, o_min, o_lenL, o_lenT, o_ix0, o_ix1, o_ixl0, o_ixl1, o_ixl2, o_isi, o_isi2, o_isN, o_notN, o_isB, o_notB, x_A0, x_F0, x_I0, x_A1, x_F1, x_I1, x_A2, x_F2, x_I2, x_A3, x_F3, x_I3, x_A4, x_F4, x_I4, x_A5, x_F5, x_I5, x_A6, x_F6, x_I6, x_A7, x_F7, x_I7, x_A8, x_F8, x_I8, x_wi0, x_wi, x_re0, x_re, x_re1, x_ok0, x_ok, x_ok1, x_ok2, o_not0, x_g0, x_gS, x_s0, x_sS, x_bs, x_bn, x_ms, x_isNnone, x_isNbool, x_isNint, x_isNstr, x_isNlist, x_isNtuple, x_isNdict, x_tyintnone, x_tyintbool, x_tyintint, x_tyintstr, x_tyintlist, x_tyinttuple, x_tyintdict, x_tyboolnone, x_tyboolbool, x_tyboolint, x_tyboolstr, x_tyboollist, x_tybooltuple, x_tybooldict, x_tystrnone, x_tystrbool, x_tystrint, x_tystrstr, x_tystrlist, x_tystrtuple, x_tystrdict, x_tytupnone, x_tytupbool, x_tytupint, x_tytupstr, x_tytuplist, x_tytuptuple, x_tytupdict, x_tylstnone, x_tylstbool, x_tylstint, x_tylststr, x_tylstlist, x_tylsttuple, x_tylstdict, x_tydctnone, x_tydctbool, x_tydctint, x_tydctstr, x_tydctlist, x_tydcttuple, x_tydctdict, x_be0, x_bn0, x_be1, x_bn1, x_be2, x_bn2, x_be3, x_bn3, List.length_cons, List.length_nil, List.map_cons, List.map_nil, List.replicate, List.cons_append, List.nil_append, List.append_nil, startE, pick, List.filterMap_cons, List.filterMap_nil, Bool.or_false, Bool.false_or, Bool.or_true, Bool.true_or, Bool.and_true, Bool.true_and, Bool.and_false, Bool.false_and, Bool.not_true, Bool.not_false, Bool.not_not, decide_true, decide_false, Int.cast_ofNat_Int, Nat.reduceAdd, Nat.zero_add, Int.reduceEq, Int.reduceLT, Int.reduceLE, Int.reduceGT, Int.reduceGE, Int.reduceAdd, Int.reduceSub, Int.reduceMul, Int.reduceNeg, Int.reducePow, Int.reduceToNat]
    · have hp : 0 < o.2 := by have := ho.1; omega
      cases hq : inQ o.1 o.2 r.1 with
      | true => simp only [e, e_in_rest o.1 r.1 ho.1, hq, o_mod hp, if_false, x_seq, x_seq1, x_seq2, x_seq3, x_seq4, x_seq5, x_asg, x_asg1, x_asgF, x_asgF1, x_exp, x_exp1, x_ret, x_ret1, x_retF, x_retF1, x_retN, x_skip, x_brk, x_cnt, x_if, x_if1, x_if2, x_and, x_and1, x_and2, x_or, x_or1, x_or2, x_not, x_not1, x_bool, x_bool1, x_andV, x_andV1, x_andV2, x_orV, x_orV1, x_orV2, x_notV, x_notV1, x_ifV, x_ifV1, x_ifV2, x_cE, x_nm, x_nm1, x_nm2, x_rd, x_rd1, x_rd2, x_rd3, x_ev0, x_ev, x_ev1, x_ev2, x_pk, x_pk1, x_pk2, x_pk3, x_vv0, x_vv, x_vv1, x_op, x_op1, x_op2, x_ca, x_ck, x_ci, x_ci0, x_ci1, x_ci2, x_ci3, x_ci4, x_ci5, x_tup, x_tup1, x_lst, x_lst1, x_ch, x_ch1, x_ch2, x_ch3, x_ch4, x_ch5, x_asgT, x_asgT1, x_nx, x_par, x_par1, x_par2, x_par3, x_par31, x_par32, x_par33, x_tn, x_t0, x_tc, x_ts, x_ts0, x_ts1, x_up1, x_up2, x_upO, x_upI, x_app, x_app0, x_app1, x_for, x_for1, x_fl1, x_fl2, x_fl3, x_fl4, x_fl5, x_fl6, x_turn, x_its, x_its1, x_its2, x_its3, x_rg1, x_rg2, x_rg21, x_en, x_en1, x_zp, x_zp1, x_zp2, x_zp3, x_st, x_st0, x_st1, x_st2, x_st3, x_yes, x_lc2, x_rA1, x_rA2, x_rF1, x_rI1, x_rI2, x_wh1, x_wh2, x_wh3, x_wh4, x_wh5, o_add, o_sub, o_neg, o_lt, o_le, o_gt, o_ge, o_eq, o_ne, o_eqB, o_neB, o_int, o_abs, o_max, o_min, o_lenL, o_lenT, o_ix0, o_ix1, o_ixl0, o_ixl1, o_ixl2, o_isi, o_isi2, o_isN, o_notN, o_isB, o_notB, x_A0, x_F0, x_I0, x_A1, x_F1, x_I1, x_A2, x_F2, x_I2, x_A3, x_F3, x_I3, x_A4, x_F4, x_I4, x_A5, x_F5, x_I5, x_A6, x_F6, x_I6, x_A7, x_F7, x_I7, x_A8, x_F8, x_I8, x_wi0, x_wi, x_re0, x_re, x_re1, x_ok0, x_ok, x_ok1, x_ok2, o_not0, x_g0, x_gS, x_s0, x_sS, x_bs, x_bn, x_ms, x_isNnone, x_isNbool, x_isNint, x_isNstr, x_isNlist, x_isNtuple, x_isNdict, x_tyintnone, x_tyintbool, x_tyintint, x_tyintstr, x_tyintlist, x_tyinttuple, x_tyintdict, x_tyboolnone, x_tyboolbool, x_tyboolint, x_tyboolstr, x_tyboollist, x_tybooltuple, x_tybooldict, x_tystrnone, x_tystrbool, x_tystrint, x_tystrstr, x_tystrlist, x_tystrtuple, x_tystrdict, x_tytupnone, x_tytupbool, x_tytupint, x_tytupstr, x_tytuplist, x_tytuptuple, x_tytupdict, x_tylstnone, x_tylstbool, x_tylstint, x_tylststr, x_tylstlist, x_tylsttuple, x_tylstdict, x_tydctnone, x_tydctbool, x_tydctint, x_tydctstr, x_tydctlist, x_tydcttuple, x_tydctdict, x_be0, x_bn0, x_be1, x_bn1, x_be2, x_bn2, x_be3, x_bn3, List.length_cons, List.length_nil, List.map_cons, List.map_nil, List.replicate, List.cons_append, List.nil_append, List.append_nil, startE, pick, List.filterMap_cons, List.filterMap_nil, Bool.or_false, Bool.false_or, Bool.or_true, Bool.true_or, Bool.and_true, Bool.true_and, Bool.and_false, Bool.false_and, Bool.not_true, Bool.not_false, Bool.not_not, decide_true, decide_false, Int.cast_ofNat_Int, Nat.reduceAdd, Nat.zero_add, Int.reduceEq, Int.reduceLT, Int.reduceLE, Int.reduceGT, Int.reduceGE, Int.reduceAdd, Int.reduceSub, Int.reduceMul, Int.reduceNeg, Int.reducePow, Int.reduceToNat]
      | false => simp only [e, e_in_rest o.1 r.1 ho.1, hq, o_mod hp, if_false, x_seq, x_seq1, x_seq2, x_seq3, x_seq4, x_seq5, x_asg, x_asg1, x_asgF, x_asgF1, x_exp, x_exp1, x_ret, x_ret1, x_retF, x_retF1, x_retN, x_skip, x_brk, x_cnt, x_if, x_if1, x_if2, x_and, x_and1, x_and2, x_or, x_or1, x_or2, x_not, x_not1, x_bool, x_bool1, x_andV, x_andV1, x_andV2, x_orV, x_orV1, x_orV2, x_notV, x_notV1, x_ifV, x_ifV1, x_ifV2, x_cE, x_nm, x_nm1, x_nm2, x_rd, x_rd1, x_rd2, x_rd3, x_ev0, x_ev, x_ev1, x_ev2, x_pk, x_pk1, x_pk2, x_pk3, x_vv0, x_vv, x_vv1, x_op, x_op1, x_op2, x_ca, x_ck, x_ci, x_ci0, x_ci1, x_ci2, x_ci3, x_ci4, x_ci5, x_tup, x_tup1, x_lst, x_lst1, x_ch, x_ch1, x_ch2, x_ch3, x_ch4, x_ch5, x_asgT, x_asgT1, x_nx, x_par, x_par1, x_par2, x_par3, x_par31, x_par32, x_par33, x_tn, x_t0, x_tc, x_ts, x_ts0, x_ts1, x_up1, x_up2, x_upO, x_upI, x_app, x_app0, x_app1, x_for, x_for1, x_fl1, x_fl2, x_fl3, x_fl4, x_fl5, x_fl6, x_turn, x_its, x_its1, x_its2, x_its3, x_rg1, x_rg2, x_rg21, x_en, x_en1, x_zp, x_zp1, x_zp2, x_zp3, x_st, x_st0, x_st1, x_st2, x_st3, x_yes, x_lc2, x_rA1, x_rA2, x_rF1, x_rI1, x_rI2, x_wh1, x_wh2, x_wh3, x_wh4, x_wh5, o_add, o_sub, o_neg, o_lt, o_le, o_gt, o_ge, o_eq, o_ne, o_eqB, o_neB, o_int, o_abs, o_max, o_min, o_lenL, o_lenT, o_ix0, o_ix1, o_ixl0, o_ixl1, o_ixl2, o_isi, o_isi2, o_isN, o_notN, o_isB, o_notB, x_A0, x_F0, x_I0, x_A1, x_F1, x_I1, x_A2, x_F2, x_I2, x_A3, x_F3, x_I3, x_A4, x_F4, x_I4, x_A5, x_F5, x_I5, x_A6, x_F6, x_I6, x_A7, x_F7, x_I7, x_A8, x_F8, x_I8, x_wi0, x_wi, x_re0, x_re, x_re1, x_ok0, x_ok, x_ok1, x_ok2, o_not0, x_g0, x_gS, x_s0, x_sS, x_bs, x_bn, x_ms, x_isNnone, x_isNbool, x_isNint, x_isNstr, x_isNlist, x_isNtuple, x_isNdict, x_tyintnone, x_tyintbool, x_tyintint, x_tyintstr, x_tyintlist, x_tyinttuple, x_tyintdict, x_tyboolnone, x_tyboolbool, x_tyboolint, x_tyboolstr, x_tyboollist, x_tybooltuple, x_tybooldict, x_tystrnone, x_tystrbool, x_tystrint, x_tystrstr, x_tystrlist, x_tystrtuple, x_tystrdict, x_tytupnone, x_tytupbool, x_tytupint, x_tytupstr, x_tytuplist, x_tytuptuple, x_tytupdict, x_tylstnone, x_tylstbool, x_tylstint, x_tylststr, x_tylstlist, x_tylsttuple, x_tylstdict, x_tydctnone, x_tydctbool, x_tydctint, x_tydctstr, x_tydctlist, x_tydcttuple, x_tydctdict, x_be0, x_bn0, x_be1, x_bn1, x_be2, x_bn2, x_be3, x_bn3, List.length_cons, List.length_nil, List.map_cons, List.map_nil, List.replicate, List.cons_append, List.nil_append, List.append_nil, startE, pick, List.filterMap_cons, List.filterMap_nil, Bool.or_false, Bool.false_or, Bool.or_true, Bool.true_or, Bool.and_true, Bool.true_and, Bool.and_false, Bool.false_and, Bool.not_true, Bool.not_false, Bool.not_not, decide_true, decide_false, Int.cast_ofNat_Int, Nat.reduceAdd, Nat.zero_add, Int.reduceEq, Int.reduceLT, Int.reduceLE, Int.reduceGT, Int.reduceGE, Int.reduceAdd, Int.reduceSub, Int.reduceMul, Int.reduceNeg, Int.reducePow, Int.reduceToNat]
  rw [sem_rest_within, g_rest_within]
  simp only [e_check_two hr ho, e1, x_seq, x_seq1, x_seq2, x_seq3, x_seq4, x_seq5, x_asg, x_asg1, x_asgF, x_asgF1, x_exp, x_exp1, x_ret, x_ret1, x_retF, x_retF1, x_retN, x_skip, x_brk, x_cnt, x_if, x_if1, x_if2, x_and, x_and1, x_and2, x_or, x_or1, x_or2, x_not, x_not1, x_bool, x_bool1, x_andV, x_andV1, x_andV2, x_orV, x_orV1, x_orV2, x_notV, x_notV1, x_ifV, x_ifV1, x_ifV2, x_cE, x_nm, x_nm1, x_nm2, x_rd, x_rd1, x_rd2, x_rd3, x_ev0, x_ev, x_ev1, x_ev2, x_pk, x_pk1, x_pk2, x_pk3, x_vv0, x_vv, x_vv1, x_op, x_op1, x_op2, x_ca, x_ck, x_ci, x_ci0, x_ci1, x_ci2, x_ci3, x_ci4, x_ci5, x_tup, x_tup1, x_lst, x_lst1, x_ch, x_ch1, x_ch2, x_ch3, x_ch4, x_ch5, x_asgT, x_asgT1, x_nx, x_par, x_par1, x_par2, x_par3, x_par31, x_par32, x_par33, x_tn, x_t0, x_tc, x_ts, x_ts0, x_ts1, x_up1, x_up2, x_upO, x_upI, x_app, x_app0, x_app1, x_for, x_for1, x_fl1, x_fl2, x_fl3, x_fl4, x_fl5, x_fl6, x_turn, x_its, x_its1, x_its2, x_its3, x_rg1, x_rg2, x_rg21, x_en, x_en1, x_zp, x_zp1, x_zp2, x_zp3, x_st, x_st0, x_st1, x_st2, x_st3, x_yes, x_lc2, x_rA1, x_rA2, x_rF1, x_rI1, x_rI2, x_wh1, x_wh2, x_wh3, x_wh4, x_wh5, o_add, o_sub, o_neg, o_lt, o_le, o_gt, o_ge, o_eq, o_ne, o_eqB, o_neB, o_int, o_abs, o_max, o_min, o_lenL, o_lenT, o_ix0, o_ix1, o_ixl0, o_ixl1, o_ixl2, o_isi, o_isi2, o_isN, o_notN, o_isB, o_notB, x_A0, x_F0, x_I0, x_A1, x_F1, x_I1, x_A2, x_F2, x_I2, x_A3, x_F3, x_I3, x_A4, x_F4, x_I4, x_A5, x_F5, x_I5, x_A6, x_F6, x_I6, x_A7, x_F7, x_I7, x_A8, x_F8, x_I8, x_wi0, x_wi, x_re0, x_re, x_re1, x_ok0, x_ok, x_ok1, x_ok2, o_not0, x_g0, x_gS, x_s0, x_sS, x_bs, x_bn, x_ms, x_isNnone, x_isNbool, x_isNint, x_isNstr, x_isNlist, x_isNtuple, x_isNdict, x_tyintnone, x_tyintbool, x_tyintint, x_tyintstr, x_tyintlist, x_tyinttuple, x_tyintdict, x_tyboolnone, x_tyboolbool, x_tyboolint, x_tyboolstr, x_tyboollist, x_tybooltuple, x_tybooldict, x_tystrnone, x_tystrbool, x_tystrint, x_tystrstr, x_tystrlist, x_tystrtuple, x_tystrdict, x_tytupnone, x_tytupbool, x_tytupint, x_tytupstr, x_tytuplist, x_tytuptuple, x_tytupdict, x_tylstnone, x_tylstbool, x_tylstint, x_tylststr, x_tylstlist, x_tylsttuple, x_tylstdict, x_tydctnone, x_tydctbool, x_tydctint, x_tydctstr, x_tydctlist, x_tydcttuple, x_tydctdict, x_be0, x_bn0, x_be1, x_bn1, x_be2, x_bn2, x_be3, x_bn3, List.length_cons, List.length_nil, List.map_cons, List.map_nil, List.replicate, List.cons_append, List.nil_append, List.append_nil, startE, pick, List.filterMap_cons, List.filterMap_nil, Bool.or_false, Bool.false_or, Bool.or_true, Bool.true_or, Bool.and_true, Bool.true_and, Bool.and_false, Bool.false_and, Bool.not_true, Bool.not_false, Bool.not_not, decide_true, decide_false, Int.cast_ofNat_Int, Nat.reduceAdd, Nat.zero_add, Int.reduceEq, Int.reduceLT, Int.reduceLE, Int.reduceGT, Int.reduceGE, Int.reduceAdd, Int.reduceSub, Int.reduceMul, Int.reduceNeg, Int.reducePow, Int.reduceToNat]
end LW

set_option maxRecDepth 20000
set_option maxHeartbeats 0
namespace LW
open PySem PySem.Spec PyProof.Rows L2 MP RT
/-! lists of ints -/
theorem lay_ints : ∀ ns : List Int, PyData.canLayAll0 (ns.map .int) = true
  | [] => rfl
  | n :: ns => by rw [List.map_cons, PyData.canLayAll0, lay_ints ns]; rfl
theorem depth_ints : ∀ ns : List Int, PyData.depthAll (ns.map .int) = 0
  | [] => rfl
  | n :: ns => by rw [List.map_cons, PyData.depthAll, depth_ints ns]; rfl
theorem shaped_ints (ns : List Int) : SeqAt.shaped (.list (ns.map .int)) = true := by
  unfold SeqAt.shaped
  rw [PyData.canLay0, lay_ints, PyData.depth, depth_ints]
  rfl
theorem any_ints (n : Int) : ∀ ns : List Int, ((ns.map PyData.int).any fun z => PyData.eqv z (.int n)) = decide (n ∈ ns)
  | [] => rfl
  | m :: ns => by
    rw [List.map_cons, List.any_cons, any_ints n ns]
    show ((m == n) || decide (n ∈ ns)) = _
    rw [beq_dec]
    by_cases h : m = n
    · subst h; simp
    · have : ¬ n = m := fun z => h z.symm
      simp [h, this]
theorem inDB_ints (n : Int) (ns : List Int) : inDB (.int n) (.list (ns.map .int)) = some (decide (n ∈ ns)) := by
  have : inDB (.int n) (.list (ns.map .int)) = if SeqAt.shaped (.int n) = true ∧ SeqAt.shaped (.list (ns.map .int)) = true then some ((ns.map PyData.int).any fun z => PyData.eqv z (.int n)) else none := rfl
  rw [this, if_pos ⟨rfl, shaped_ints ns⟩, any_ints]
theorem o_in (n : Int) (ns : List Int) : inD [.int n, .list (ns.map .int)] = some (.bool (decide (n ∈ ns))) := by
  show (inDB _ _).map _ = _
  rw [inDB_ints]; rfl
theorem o_nin (n : Int) (ns : List Int) : notInD [.int n, .list (ns.map .int)] = some (.bool (!decide (n ∈ ns))) := by
  show (inDB _ _).map _ = _
  rw [inDB_ints]; rfl
theorem eqv_ints : ∀ as bs : List Int, PyData.eqvAll (as.map .int) (bs.map .int) = decide (as = bs)
  | [], [] => rfl
  | [], _ :: _ => rfl
  | _ :: _, [] => rfl
  | a :: as, b :: bs => by
    rw [List.map_cons, List.map_cons, PyData.eqvAll, eqv_ints as bs]
    show ((a == b) && _) = _
    rw [beq_dec]
    by_cases h : a = b
    · subst h; simp
    · simp [h]
theorem o_eqL (as bs : List Int) : eqD [.list (as.map .int), .list (bs.map .int)] = some (.bool (decide (as = bs))) := by
  show (if _ then _ else _) = _
  rw [if_pos ⟨shaped_ints as, shaped_ints bs⟩]
  show some (PyData.bool (PyData.eqvAll _ _)) = _
  rw [eqv_ints]
theorem o_neL (as bs : List Int) : neD [.list (as.map .int), .list (bs.map .int)] = some (.bool (!decide (as = bs))) := by
  show (if _ then _ else _) = _
  rw [if_pos ⟨shaped_ints as, shaped_ints bs⟩]
  show some (PyData.bool (!PyData.eqvAll _ _)) = _
  rw [eqv_ints]
theorem o_cat {as bs : List Int} (h : as.length + bs.length ≤ sizeLine) : addD [.list (as.map .int), .list (bs.map .int)] = some (.list ((as ++ bs).map .int)) := by
  show (if _ then _ else _) = _
  rw [List.length_map, List.length_map, if_pos h, List.map_append]
theorem dedup_one : ∀ (ns acc : List Int), acc ≠ [] → (dedup acc ns).length = 1 → ∀ x ∈ acc ++ ns, ∀ y ∈ acc ++ ns, x = y
  | [], acc, h, e => by
    rw [dedup] at e
    intro x hx y hy
    rw [List.append_nil] at hx hy
    match acc, e with
    | [a], _ => rw [List.mem_singleton.mp hx, List.mem_singleton.mp hy]
  | n :: ns, acc, h, e => by
    rw [dedup] at e
    split at e
    · rename_i hn
      obtain ⟨m, hm, em⟩ := List.any_eq_true.mp hn
      have em : m = n := eq_of_beq em
      subst em
      have ih := dedup_one ns acc h e
      have go : ∀ x ∈ acc ++ m :: ns, x ∈ acc ++ ns := fun x hx => by
        rcases List.mem_append.mp hx with z | z
        · exact List.mem_append_left _ z
        · rcases List.mem_cons.mp z with z | z
          · subst z; exact List.mem_append_left _ hm
          · exact List.mem_append_right _ z
      exact fun x hx y hy => ih x (go x hx) y (go y hy)
    · have ih := dedup_one ns (acc ++ [n]) (by simp) e
      rw [List.append_assoc] at ih
      exact ih
theorem dedup_all {ns : List Int} (e : (dedup [] ns).length = 1) : ∀ x ∈ ns, ∀ y ∈ ns, x = y := by
  cases ns with
  | nil => cases e
  | cons n ns =>
    rw [dedup] at e
    exact dedup_one ns [n] (by simp) e
theorem o_lenSet {ns : List Int} (h : ns.length ≤ 4000) : lenSetD [.list (ns.map .int)] = some (.int ((dedup [] ns).length : Nat)) := by
  show (asInts _).bind _ = _
  rw [asInts_map]
  exact if_pos h
theorem map_ints (p : Int → Int) (g : D → Option D) (hg : ∀ i, g (.int i) = some (.int (p i))) : ∀ ns : List Int, (ns.map PyData.int).filterMap g = (ns.map p).map .int
  | [] => rfl
  | n :: ns => by
    rw [List.map_cons, List.filterMap_cons, hg, map_ints p g hg ns]; rfl
/-! the window's comprehensions -/
section
variable (c0 c1 c2 c3 c4 c5 c6 c7 c8 c9 c10 : Cell) (A B : List Int)
theorem w_both : compL (tgName 11) cc__law_window_right_3 ce__law_window_right_4 [11] (A.map .int) [c0, c1, c2, c3, c4, .sh (.list (B.map .int)), c6, c7, c8, c9, c10, .no] = some ((A.filter fun n => decide (n ∈ B)).map .int, [c0, c1, c2, c3, c4, .sh (.list (B.map .int)), c6, c7, c8, c9, c10, .no]) := by
  rw [compL_pure (g := fun d => match d with
      | .int i => if decide (i ∈ B) = true then some (.int i) else none
      | _ => none) fun d hd => ?_, fm_ints (fun n => decide (n ∈ B)) _ fun _ => rfl]
  obtain ⟨i, _, rfl⟩ := List.mem_map.mp hd
  rw [cc__law_window_right_3, ce__law_window_right_4]
  by_cases hq : i ∈ B
  · simp only [o_in, hq, if_true, x_seq, x_seq1, x_seq2, x_seq3, x_seq4, x_seq5, x_asg, x_asg1, x_asgF, x_asgF1, x_exp, x_exp1, x_ret, x_ret1, x_retF, x_retF1, x_retN, x_skip, x_brk, x_cnt, x_if, x_if1, x_if2, x_and, x_and1, x_and2, x_or, x_or1, x_or2, x_not, x_not1, x_bool, x_bool1, x_andV, x_andV1, x_andV2, x_orV, x_orV1, x_orV2, x_notV, x_notV1, x_ifV, x_ifV1, x_ifV2, x_cE, x_nm, x_nm1, x_nm2, x_rd, x_rd1, x_rd2, x_rd3, x_ev0, x_ev, x_ev1, x_ev2, x_pk, x_pk1, x_pk2, x_pk3, x_vv0, x_vv, x_vv1, x_op, x_op1, x_op2, x_ca, x_ck, x_ci, x_ci0, x_ci1, x_ci2, x_ci3, x_ci4, x_ci5, x_tup, x_tup1, x_lst, x_lst1, x_ch, x_ch1, x_ch2, x_ch3, x_ch4, x_ch5, x_asgT, x_asgT1, x_nx, x_par, x_par1, x_par2, x_par3, x_par31, x_par32, x_par33, x_tn, x_t0, x_tc, x_ts, x_ts0, x_ts1, x_up1, x_up2, x_upO, x_upI, x_app, x_app0, x_app1, x_for, x_for1, x_fl1, x_fl2, x_fl3, x_fl4, x_fl5, x_fl6, x_turn, x_its, x_its1, x_its2, x_its3, x_rg1, x_rg2, x_rg21, x_en, x_en1, x_zp, x_zp1, x_zp2, x_zp3, x_st, x_st0, x_st1, x_st2, x_st3, x_yes, x_lc2, x_rA1, x_rA2, x_rF1, x_rI1, x_rI2, x_wh1, x_wh2, x_wh3, x_wh4, x_wh5, o_add, o_sub, o_neg, o_lt, o_le, o_gt, o_ge, o_eq, o_ne, o_eqB, o_neB, o_int, o_abs, o_max, o_min, o_lenL, o_lenT, o_ix0, o_ix1, o_ixl0, o_ixl1, o_ixl2, o_isi, o_isi2, o_isN, o_notN, o_isB, o_notB, x_A0, x_F0, x_I0, x_A1, x_F1, x_I1, x_A2, x_F2, x_I2, x_A3, x_F3, x_I3, x_A4, x_F4, x_I4, x_A5, x_F5, x_I5, x_A6, x_F6, x_I6, x_A7, x_F7, x_I7, x_A8, x_F8, x_I8, x_wi0, x_wi, x_re0, x_re, x_re1, x_ok0, x_ok, x_ok1, x_ok2, o_not0, x_g0, x_gS, x_s0, x_sS, x_bs, x_bn, x_ms, x_isNnone, x_isNbool, x_isNint, x_isNstr, x_isNlist, x_isNtuple, x_isNdict, x_tyintnone, x_tyintbool, x_tyintint, x_tyintstr, x_tyintlist, x_tyinttuple, x_tyintdict, x_tyboolnone, x_tyboolbool, x_tyboolint, x_tyboolstr, x_tyboollist, x_tybooltuple, x_tybooldict, x_tystrnone, x_tystrbool, x_tystrint, x_tystrstr, x_tystrlist, x_tystrtuple, x_tystrdict, x_tytupnone, x_tytupbool, x_tytupint, x_tytupstr, x_tytuplist, x_tytuptuple, x_tytupdict, x_tylstnone, x_tylstbool, x_tylstint, x_tylststr, x_tylstlist, x_tylsttuple, x_tylstdict, x_tydctnone, x_tydctbool, x_tydctint, x_tydctstr, x_tydctlist, x_tydcttuple, x_tydctdict, x_be0, x_bn0, x_be1, x_bn1, x_be2, x_bn2, x_be3, x_bn3, List.length_cons, List.length_nil, List.map_cons, List.map_nil, List.replicate, List.cons_append, List.nil_append, List.append_nil, startE, pick, List.filterMap_cons, List.filterMap_nil, Bool.or_false, Bool.false_or, Bool.or_true, Bool.true_or, Bool.and_true, Bool.true_and, Bool.and_false, Bool.false_and, Bool.not_true, Bool.not_false, Bool.not_not, decide_true, decide_false, Int.cast_ofNat_Int, Nat.reduceAdd, Nat.zero_add, Int.reduceEq, Int.reduceLT, Int.reduceLE, Int.reduceGT, Int.reduceGE, Int.reduceAdd, Int.reduceSub, Int.reduceMul, Int.reduceNeg, Int.reducePow, Int.reduceToNat]
  · simp only [o_in, hq, Bool.false_eq_true, if_false, x_seq, x_seq1, x_seq2, x_seq3, x_seq4, x_seq5, x_asg, x_asg1, x_asgF, x_asgF1, x_exp, x_exp1, x_ret, x_ret1, x_retF, x_retF1, x_retN, x_skip, x_brk, x_cnt, x_if, x_if1, x_if2, x_and, x_and1, x_and2, x_or, x_or1, x_or2, x_not, x_not1, x_bool, x_bool1, x_andV, x_andV1, x_andV2, x_orV, x_orV1, x_orV2, x_notV, x_notV1, x_ifV, x_ifV1, x_ifV2, x_cE, x_nm, x_nm1, x_nm2, x_rd, x_rd1, x_rd2, x_rd3, x_ev0, x_ev, x_ev1, x_ev2, x_pk, x_pk1, x_pk2, x_pk3, x_vv0, x_vv, x_vv1, x_op, x_op1, x_op2, x_ca, x_ck, x_ci, x_ci0, x_ci1, x_ci2, x_ci3, x_ci4, x_ci5, x_tup, x_tup1, x_lst, x_lst1, x_ch, x_ch1, x_ch2, x_ch3, x_ch4, x_ch5, x_asgT, x_asgT1, x_nx, x_par, x_par1, x_par2, x_par3, x_par31, x_par32, x_par33, x_tn, x_t0, x_tc, x_ts, x_ts0, x_ts1, x_up1, x_up2, x_upO, x_upI, x_app, x_app0, x_app1, x_for, x_for1, x_fl1, x_fl2, x_fl3, x_fl4, x_fl5, x_fl6, x_turn, x_its, x_its1, x_its2, x_its3, x_rg1, x_rg2, x_rg21, x_en, x_en1, x_zp, x_zp1, x_zp2, x_zp3, x_st, x_st0, x_st1, x_st2, x_st3, x_yes, x_lc2, x_rA1, x_rA2, x_rF1, x_rI1, x_rI2, x_wh1, x_wh2, x_wh3, x_wh4, x_wh5, o_add, o_sub, o_neg, o_lt, o_le, o_gt, o_ge, o_eq, o_ne, o_eqB, o_neB, o_int, o_abs, o_max, o_min, o_lenL, o_lenT, o_ix0, o_ix1, o_ixl0, o_ixl1, o_ixl2, o_isi, o_isi2, o_isN, o_notN, o_isB, o_notB, x_A0, x_F0, x_I0, x_A1, x_F1, x_I1, x_A2, x_F2, x_I2, x_A3, x_F3, x_I3, x_A4, x_F4, x_I4, x_A5, x_F5, x_I5, x_A6, x_F6, x_I6, x_A7, x_F7, x_I7, x_A8, x_F8, x_I8, x_wi0, x_wi, x_re0, x_re, x_re1, x_ok0, x_ok, x_ok1, x_ok2, o_not0, x_g0, x_gS, x_s0, x_sS, x_bs, x_bn, x_ms, x_isNnone, x_isNbool, x_isNint, x_isNstr, x_isNlist, x_isNtuple, x_isNdict, x_tyintnone, x_tyintbool, x_tyintint, x_tyintstr, x_tyintlist, x_tyinttuple, x_tyintdict, x_tyboolnone, x_tyboolbool, x_tyboolint, x_tyboolstr, x_tyboollist, x_tybooltuple, x_tybooldict, x_tystrnone, x_tystrbool, x_tystrint, x_tystrstr, x_tystrlist, x_tystrtuple, x_tystrdict, x_tytupnone, x_tytupbool, x_tytupint, x_tytupstr, x_tytuplist, x_tytuptuple, x_tytupdict, x_tylstnone, x_tylstbool, x_tylstint, x_tylststr, x_tylstlist, x_tylsttuple, x_tylstdict, x_tydctnone, x_tydctbool, x_tydctint, x_tydctstr, x_tydctlist, x_tydcttuple, x_tydctdict, x_be0, x_bn0, x_be1, x_bn1, x_be2, x_bn2, x_be3, x_bn3, List.length_cons, List.length_nil, List.map_cons, List.map_nil, List.replicate, List.cons_append, List.nil_append, List.append_nil, startE, pick, List.filterMap_cons, List.filterMap_nil, Bool.or_false, Bool.false_or, Bool.or_true, Bool.true_or, Bool.and_true, Bool.true_and, Bool.and_false, Bool.false_and, Bool.not_true, Bool.not_false, Bool.not_not, decide_true, decide_false, Int.cast_ofNat_Int, Nat.reduceAdd, Nat.zero_add, Int.reduceEq, Int.reduceLT, Int.reduceLE, Int.reduceGT, Int.reduceGE, Int.reduceAdd, Int.reduceSub, Int.reduceMul, Int.reduceNeg, Int.reducePow, Int.reduceToNat]
theorem w_out (r : Int × Int) (h : 0 ≤ r.2) : compL (tgName 11) cc__law_window_right_5 ce__law_window_right_6 [11] (A.map .int) [c0, c1, c2, c3, c4, c5, c6, c7, .sh (eR r), c9, c10, .no] = some ((A.filter fun n => !inQ r.1 r.2 n).map .int, [c0, c1, c2, c3, c4, c5, c6, c7, .sh (eR r), c9, c10, .no]) := by
  rw [compL_pure (g := fun d => match d with
      | .int i => if (!inQ r.1 r.2 i) = true then some (.int i) else none
      | _ => none) fun d hd => ?_, fm_ints (fun n => !inQ r.1 r.2 n) _ fun _ => rfl]
  obtain ⟨i, _, rfl⟩ := List.mem_map.mp hd
  rw [cc__law_window_right_5, ce__law_window_right_6]
  cases hq : inQ r.1 r.2 i with
  | true => simp only [e_lin r.1 i h, hq, Bool.false_eq_true, if_false, x_seq, x_seq1, x_seq2, x_seq3, x_seq4, x_seq5, x_asg, x_asg1, x_asgF, x_asgF1, x_exp, x_exp1, x_ret, x_ret1, x_retF, x_retF1, x_retN, x_skip, x_brk, x_cnt, x_if, x_if1, x_if2, x_and, x_and1, x_and2, x_or, x_or1, x_or2, x_not, x_not1, x_bool, x_bool1, x_andV, x_andV1, x_andV2, x_orV, x_orV1, x_orV2, x_notV, x_notV1, x_ifV, x_ifV1, x_ifV2, x_cE, x_nm, x_nm1, x_nm2, x_rd, x_rd1, x_rd2, x_rd3, x_ev0, x_ev, x_ev1, x_ev2, x_pk, x_pk1, x_pk2, x_pk3, x_vv0, x_vv, x_vv1, x_op, x_op1, x_op2, x_ca, x_ck, x_ci, x_ci0, x_ci1, x_ci2, x_ci3, x_ci4, x_ci5, x_tup, x_tup1, x_lst, x_lst1, x_ch, x_ch1, x_ch2, x_ch3, x_ch4, x_ch5, x_asgT, x_asgT1, x_nx, x_par, x_par1, x_par2, x_par3, x_par31, x_par32, x_par33, x_tn, x_t0, x_tc, x_ts, x_ts0, x_ts1, x_up1, x_up2, x_upO, x_upI, x_app, x_app0, x_app1, x_for, x_for1, x_fl1, x_fl2, x_fl3, x_fl4, x_fl5, x_fl6, x_turn, x_its, x_its1, x_its2, x_its3, x_rg1, x_rg2, x_rg21, x_en, x_en1, x_zp, x_zp1, x_zp2, x_zp3, x_st, x_st0, x_st1, x_st2, x_st3, x_yes, x_lc2, x_rA1, x_rA2, x_rF1, x_rI1, x_rI2, x_wh1, x_wh2, x_wh3, x_wh4, x_wh5, o_add, o_sub, o_neg, o_lt, o_le, o_gt, o_ge, o_eq, o_ne, o_eqB, o_neB, o_int, o_abs, o_max, o_min, o_lenL, o_lenT, o_ix0, o_ix1, o_ixl0, o_ixl1, o_ixl2, o_isi, o_isi2, o_isN, o_notN, o_isB, o_notB, x_A0, x_F0, x_I0, x_A1, x_F1, x_I1, x_A2, x_F2, x_I2, x_A3, x_F3, x_I3, x_A4, x_F4, x_I4, x_A5, x_F5, x_I5, x_A6, x_F6, x_I6, x_A7, x_F7, x_I7, x_A8, x_F8, x_I8, x_wi0, x_wi, x_re0, x_re, x_re1, x_ok0, x_ok, x_ok1, x_ok2, o_not0, x_g0, x_gS, x_s0, x_sS, x_bs, x_bn, x_ms, x_isNnone, x_isNbool, x_isNint, x_isNstr, x_isNlist, x_isNtuple, x_isNdict, x_tyintnone, x_tyintbool, x_tyintint, x_tyintstr, x_tyintlist, x_tyinttuple, x_tyintdict, x_tyboolnone, x_tyboolbool, x_tyboolint, x_tyboolstr, x_tyboollist, x_tybooltuple, x_tybooldict, x_tystrnone, x_tystrbool, x_tystrint, x_tystrstr, x_tystrlist, x_tystrtuple, x_tystrdict, x_tytupnone, x_tytupbool, x_tytupint, x_tytupstr, x_tytuplist, x_tytuptuple, x_tytupdict, x_tylstnone, x_tylstbool, x_tylstint, x_tylststr, x_tylstlist, x_tylsttuple, x_tylstdict, x_tydctnone, x_tydctbool, x_tydctint, x_tydctstr, x_tydctlist, x_tydcttuple, x_tydctdict, x_be0, x_bn0, x_be1, x_bn1, x_be2, x_bn2, x_be3, x_bn3, List.length_cons, List.length_nil, List.map_cons, List.map_nil, List.replicate, List.cons_append, List.nil_append, List.append_nil, startE, pick, List.filterMap_cons, List.filterMap_nil, Bool.or_false, Bool.false_or, Bool.or_true, Bool.true_or, Bool.and_true, Bool.true_and, Bool.and_false, Bool.false_and, Bool.not_true, Bool.not_false, Bool.not_not, decide_true, decide_false, Int.cast_ofNat_Int, Nat.reduceAdd, Nat.zero_add, Int.reduceEq, Int.reduceLT, Int.reduceLE, Int.reduceGT, Int.reduceGE, Int.reduceAdd, Int.reduceSub, Int.reduceMul, Int.reduceNeg, Int.reducePow, Int.reduceToNat]
  | false => simp only [e_lin r.1 i h, hq, if_true, x_seq, x_seq1, x_seq2, x_seq3, x_seq4, x_seq5, x_asg, x_asg1, x_asgF, x_asgF1, x_exp, x_exp1, x_ret, x_ret1, x_retF, x_retF1, x_retN, x_skip, x_brk, x_cnt, x_if, x_if1, x_if2, x_and, x_and1, x_and2, x_or, x_or1, x_or2, x_not, x_not1, x_bool, x_bool1, x_andV, x_andV1, x_andV2, x_orV, x_orV1, x_orV2, x_notV, x_notV1, x_ifV, x_ifV1, x_ifV2, x_cE, x_nm, x_nm1, x_nm2, x_rd, x_rd1, x_rd2, x_rd3, x_ev0, x_ev, x_ev1, x_ev2, x_pk, x_pk1, x_pk2, x_pk3, x_vv0, x_vv, x_vv1, x_op, x_op1, x_op2, x_ca, x_ck, x_ci, x_ci0, x_ci1, x_ci2, x_ci3, x_ci4, x_ci5, x_tup, x_tup1, x_lst, x_lst1, x_ch, x_ch1, x_ch2, x_ch3, x_ch4, x_ch5, x_asgT, x_asgT1, x_nx, x_par, x_par1, x_par2, x_par3, x_par31, x_par32, x_par33, x_tn, x_t0, x_tc, x_ts, x_ts0, x_ts1, x_up1, x_up2, x_upO, x_upI, x_app, x_app0, x_app1, x_for, x_for1, x_fl1, x_fl2, x_fl3, x_fl4, x_fl5, x_fl6, x_turn, x_its, x_its1, x_its2, x_its3, x_rg1, x_rg2, x_rg21, x_en, x_en1, x_zp, x_zp1, x_zp2, x_zp3, x_st, x_st0, x_st1, x_st2, x_st3, x_yes, x_lc2, x_rA1, x_rA2, x_rF1, x_rI1, x_rI2, x_wh1, x_wh2, x_wh3, x_wh4, x_wh5, o_add, o_sub, o_neg, o_lt, o_le, o_gt, o_ge, o_eq, o_ne, o_eqB, o_neB, o_int, o_abs, o_max, o_min, o_lenL, o_lenT, o_ix0, o_ix1, o_ixl0, o_ixl1, o_ixl2, o_isi, o_isi2, o_isN, o_notN, o_isB, o_notB, x_A0, x_F0, x_I0, x_A1, x_F1, x_I1, x_A2, x_F2, x_I2, x_A3, x_F3, x_I3, x_A4, x_F4, x_I4, x_A5, x_F5, x_I5, x_A6, x_F6, x_I6, x_A7, x_F7, x_I7, x_A8, x_F8, x_I8, x_wi0, x_wi, x_re0, x_re, x_re1, x_ok0, x_ok, x_ok1, x_ok2, o_not0, x_g0, x_gS, x_s0, x_sS, x_bs, x_bn, x_ms, x_isNnone, x_isNbool, x_isNint, x_isNstr, x_isNlist, x_isNtuple, x_isNdict, x_tyintnone, x_tyintbool, x_tyintint, x_tyintstr, x_tyintlist, x_tyinttuple, x_tyintdict, x_tyboolnone, x_tyboolbool, x_tyboolint, x_tyboolstr, x_tyboollist, x_tybooltuple, x_tybooldict, x_tystrnone, x_tystrbool, x_tystrint, x_tystrstr, x_tystrlist, x_tystrtuple, x_tystrdict, x_tytupnone, x_tytupbool, x_tytupint, x_tytupstr, x_tytuplist, x_tytuptuple, x_tytupdict, x_tylstnone, x_tylstbool, x_tylstint, x_tylststr, x_tylstlist, x_tylsttuple, x_tylstdict, x_tydctnone, x_tydctbool, x_tydctint, x_tydctstr, x_tydctlist, x_tydcttuple, x_tydctdict, x_be0, x_bn0, x_be1, x_bn1, x_be2, x_bn2, x_be3, x_bn3, List.length_cons, List.length_nil, List.map_cons, List.map_nil, List.replicate, List.cons_append, List.nil_append, List.append_nil, startE, pick, List.filterMap_cons, List.filterMap_nil, Bool.or_false, Bool.false_or, Bool.or_true, Bool.true_or, Bool.and_true, Bool.true_and, Bool.and_false, Bool.false_and, Bool.not_true, Bool.not_false, Bool.not_not, decide_true, decide_false, Int.cast_ofNat_Int, Nat.reduceAdd, Nat.zero_add, Int.reduceEq, Int.reduceLT, Int.reduceLE, Int.reduceGT, Int.reduceGE, Int.reduceAdd, Int.reduceSub, Int.reduceMul, Int.reduceNeg, Int.reducePow, Int.reduceToNat]
theorem w_mod {s : Int} (h : 0 < s) : compL (tgName 11) yesT ce__law_window_right_7 [11] (A.map .int) [c0, c1, c2, c3, c4, c5, c6, c7, c8, .sh (.int s), c10, .no] = some ((A.map fun n => n % s).map .int, [c0, c1, c2, c3, c4, c5, c6, c7, c8, .sh (.int s), c10, .no]) := by
  rw [compL_pure (g := fun d => match d with
      | .int i => some (.int (i % s))
      | _ => none) fun d hd => ?_, map_ints (fun n => n % s) _ fun _ => rfl]
  obtain ⟨i, _, rfl⟩ := List.mem_map.mp hd
  rw [ce__law_window_right_7]
  simp only [o_mod h, x_seq, x_seq1, x_seq2, x_seq3, x_seq4, x_seq5, x_asg, x_asg1, x_asgF, x_asgF1, x_exp, x_exp1, x_ret, x_ret1, x_retF, x_retF1, x_retN, x_skip, x_brk, x_cnt, x_if, x_if1, x_if2, x_and, x_and1, x_and2, x_or, x_or1, x_or2, x_not, x_not1, x_bool, x_bool1, x_andV, x_andV1, x_andV2, x_orV, x_orV1, x_orV2, x_notV, x_notV1, x_ifV, x_ifV1, x_ifV2, x_cE, x_nm, x_nm1, x_nm2, x_rd, x_rd1, x_rd2, x_rd3, x_ev0, x_ev, x_ev1, x_ev2, x_pk, x_pk1, x_pk2, x_pk3, x_vv0, x_vv, x_vv1, x_op, x_op1, x_op2, x_ca, x_ck, x_ci, x_ci0, x_ci1, x_ci2, x_ci3, x_ci4, x_ci5, x_tup, x_tup1, x_lst, x_lst1, x_ch, x_ch1, x_ch2, x_ch3, x_ch4, x_ch5, x_asgT, x_asgT1, x_nx, x_par, x_par1, x_par2, x_par3, x_par31, x_par32, x_par33, x_tn, x_t0, x_tc, x_ts, x_ts0, x_ts1, x_up1, x_up2, x_upO, x_upI, x_app, x_app0, x_app1, x_for, x_for1, x_fl1, x_fl2, x_fl3, x_fl4, x_fl5, x_fl6, x_turn, x_its, x_its1, x_its2, x_its3, x_rg1, x_rg2, x_rg21, x_en, x_en1, x_zp, x_zp1, x_zp2, x_zp3, x_st, x_st0, x_st1, x_st2, x_st3, x_yes, x_lc2, x_rA1, x_rA2, x_rF1, x_rI1, x_rI2, x_wh1, x_wh2, x_wh3, x_wh4, x_wh5, o_add, o_sub, o_neg, o_lt, o_le, o_gt, o_ge, o_eq, o_ne, o_eqB, o_neB, o_int, o_abs, o_max, o_min, o_lenL, o_lenT, o_ix0, o_ix1, o_ixl0, o_ixl1, o_ixl2, o_isi, o_isi2, o_isN, o_notN, o_isB, o_notB, x_A0, x_F0, x_I0, x_A1, x_F1, x_I1, x_A2, x_F2, x_I2, x_A3, x_F3, x_I3, x_A4, x_F4, x_I4, x_A5, x_F5, x_I5, x_A6, x_F6, x_I6, x_A7, x_F7, x_I7, x_A8, x_F8, x_I8, x_wi0, x_wi, x_re0, x_re, x_re1, x_ok0, x_ok, x_ok1, x_ok2, o_not0, x_g0, x_gS, x_s0, x_sS, x_bs, x_bn, x_ms, x_isNnone, x_isNbool, x_isNint, x_isNstr, x_isNlist, x_isNtuple, x_isNdict, x_tyintnone, x_tyintbool, x_tyintint, x_tyintstr, x_tyintlist, x_tyinttuple, x_tyintdict, x_tyboolnone, x_tyboolbool, x_tyboolint, x_tyboolstr, x_tyboollist, x_tybooltuple, x_tybooldict, x_tystrnone, x_tystrbool, x_tystrint, x_tystrstr, x_tystrlist, x_tystrtuple, x_tystrdict, x_tytupnone, x_tytupbool, x_tytupint, x_tytupstr, x_tytuplist, x_tytuptuple, x_tytupdict, x_tylstnone, x_tylstbool, x_tylstint, x_tylststr, x_tylstlist, x_tylsttuple, x_tylstdict, x_tydctnone, x_tydctbool, x_tydctint, x_tydctstr, x_tydctlist, x_tydcttuple, x_tydctdict, x_be0, x_bn0, x_be1, x_bn1, x_be2, x_bn2, x_be3, x_bn3, List.length_cons, List.length_nil, List.map_cons, List.map_nil, List.replicate, List.cons_append, List.nil_append, List.append_nil, startE, pick, List.filterMap_cons, List.filterMap_nil, Bool.or_false, Bool.false_or, Bool.or_true, Bool.true_or, Bool.and_true, Bool.true_and, Bool.and_false, Bool.false_and, Bool.not_true, Bool.not_false, Bool.not_not, decide_true, decide_false, Int.cast_ofNat_Int, Nat.reduceAdd, Nat.zero_add, Int.reduceEq, Int.reduceLT, Int.reduceLE, Int.reduceGT, Int.reduceGE, Int.reduceAdd, Int.reduceSub, Int.reduceMul, Int.reduceNeg, Int.reducePow, Int.reduceToNat]
theorem w_nin : compL (tgName 11) cc__law_window_right_9 ce__law_window_right_10 [11] (A.map .int) [c0, c1, c2, c3, c4, .sh (.list (B.map .int)), c6, c7, c8, c9, c10, .no] = some ((A.filter fun n => !decide (n ∈ B)).map .int, [c0, c1, c2, c3, c4, .sh (.list (B.map .int)), c6, c7, c8, c9, c10, .no]) := by
  rw [compL_pure (g := fun d => match d with
      | .int i => if (!decide (i ∈ B)) = true then some (.int i) else none
      | _ => none) fun d hd => ?_, fm_ints (fun n => !decide (n ∈ B)) _ fun _ => rfl]
  obtain ⟨i, _, rfl⟩ := List.mem_map.mp hd
  rw [cc__law_window_right_9, ce__law_window_right_10]
  by_cases hq : i ∈ B
  · simp only [o_nin, hq, Bool.false_eq_true, if_false, x_seq, x_seq1, x_seq2, x_seq3, x_seq4, x_seq5, x_asg, x_asg1, x_asgF, x_asgF1, x_exp, x_exp1, x_ret, x_ret1, x_retF, x_retF1, x_retN, x_skip, x_brk, x_cnt, x_if, x_if1, x_if2, x_and, x_and1, x_and2, x_or, x_or1, x_or2, x_not, x_not1, x_bool, x_bool1, x_andV, x_andV1, x_andV2, x_orV, x_orV1, x_orV2, x_notV, x_notV1, x_ifV, x_ifV1, x_ifV2, x_cE, x_nm, x_nm1, x_nm2, x_rd, x_rd1, x_rd2, x_rd3, x_ev0, x_ev, x_ev1, x_ev2, x_pk, x_pk1, x_pk2, x_pk3, x_vv0, x_vv, x_vv1, x_op, x_op1, x_op2, x_ca, x_ck, x_ci, x_ci0, x_ci1, x_ci2, x_ci3, x_ci4, x_ci5, x_tup, x_tup1, x_lst, x_lst1, x_ch, x_ch1, x_ch2, x_ch3, x_ch4, x_ch5, x_asgT, x_asgT1, x_nx, x_par, x_par1, x_par2, x_par3, x_par31, x_par32, x_par33, x_tn, x_t0, x_tc, x_ts, x_ts0, x_ts1, x_up1, x_up2, x_upO, x_upI, x_app, x_app0, x_app1, x_for, x_for1, x_fl1, x_fl2, x_fl3, x_fl4, x_fl5, x_fl6, x_turn, x_its, x_its1, x_its2, x_its3, x_rg1, x_rg2, x_rg21, x_en, x_en1, x_zp, x_zp1, x_zp2, x_zp3, x_st, x_st0, x_st1, x_st2, x_st3, x_yes, x_lc2, x_rA1, x_rA2, x_rF1, x_rI1, x_rI2, x_wh1, x_wh2, x_wh3, x_wh4, x_wh5, o_add, o_sub, o_neg, o_lt, o_le, o_gt, o_ge, o_eq, o_ne, o_eqB, o_neB, o_int, o_abs, o_max, o_min, o_lenL, o_lenT, o_ix0, o_ix1, o_ixl0, o_ixl1, o_ixl2, o_isi, o_isi2, o_isN, o_notN, o_isB, o_notB, x_A0, x_F0, x_I0, x_A1, x_F1, x_I1, x_A2, x_F2, x_I2, x_A3, x_F3, x_I3, x_A4, x_F4, x_I4, x_A5, x_F5, x_I5, x_A6, x_F6, x_I6, x_A7, x_F7, x_I7, x_A8, x_F8, x_I8, x_wi0, x_wi, x_re0, x_re, x_re1, x_ok0, x_ok, x_ok1, x_ok2, o_not0, x_g0, x_gS, x_s0, x_sS, x_bs, x_bn, x_ms, x_isNnone, x_isNbool, x_isNint, x_isNstr, x_isNlist, x_isNtuple, x_isNdict, x_tyintnone, x_tyintbool, x_tyintint, x_tyintstr, x_tyintlist, x_tyinttuple, x_tyintdict, x_tyboolnone, x_tyboolbool, x_tyboolint, x_tyboolstr, x_tyboollist, x_tybooltuple, x_tybooldict, x_tystrnone, x_tystrbool, x_tystrint, x_tystrstr, x_tystrlist, x_tystrtuple, x_tystrdict, x_tytupnone, x_tytupbool, x_tytupint, x_tytupstr, x_tytuplist, x_tytuptuple, x_tytupdict, x_tylstnone, x_tylstbool, x_tylstint, x_tylststr, x_tylstlist, x_tylsttuple, x_tylstdict, x_tydctnone, x_tydctbool, x_tydctint, x_tydctstr, x_tydctlist, x_tydcttuple, x_tydctdict, x_be0, x_bn0, x_be1, x_bn1, x_be2, x_bn2, x_be3, x_bn3, List.length_cons, List.length_nil, List.map_cons, List.map_nil, List.replicate, List.cons_append, List.nil_append, List.append_nil, startE, pick, List.filterMap_cons, List.filterMap_nil, Bool.or_false, Bool.false_or, Bool.or_true, Bool.true_or, Bool.and_true, Bool.true_and, Bool.and_false, Bool.false_and, Bool.not_true, Bool.not_false, Bool.not_not, decide_true, decide_false, Int.cast_ofNat_Int, Nat.reduceAdd, Nat.zero_add, Int.reduceEq, Int.reduceLT, Int.reduceLE, Int.reduceGT, Int.reduceGE, Int.reduceAdd, Int.reduceSub, Int.reduceMul, Int.reduceNeg, Int.reducePow, Int.reduceToNat]
  · simp only [o_nin, hq, if_true, x_seq, x_seq1, x_seq2, x_seq3, x_seq4, x_seq5, x_asg, x_asg1, x_asgF, x_asgF1, x_exp, x_exp1, x_ret, x_ret1, x_retF, x_retF1, x_retN, x_skip, x_brk, x_cnt, x_if, x_if1, x_if2, x_and, x_and1, x_and2, x_or, x_or1, x_or2, x_not, x_not1, x_bool, x_bool1, x_andV, x_andV1, x_andV2, x_orV, x_orV1, x_orV2, x_notV, x_notV1, x_ifV, x_ifV1, x_ifV2, x_cE, x_nm, x_nm1, x_nm2, x_rd, x_rd1, x_rd2, x_rd3, x_ev0, x_ev, x_ev1, x_ev2, x_pk, x_pk1, x_pk2, x_pk3, x_vv0, x_vv, x_vv1, x_op, x_op1, x_op2, x_ca, x_ck, x_ci, x_ci0, x_ci1, x_ci2, x_ci3, x_ci4, x_ci5, x_tup, x_tup1, x_lst, x_lst1, x_ch, x_ch1, x_ch2, x_ch3, x_ch4, x_ch5, x_asgT, x_asgT1, x_nx, x_par, x_par1, x_par2, x_par3, x_par31, x_par32, x_par33, x_tn, x_t0, x_tc, x_ts, x_ts0, x_ts1, x_up1, x_up2, x_upO, x_upI, x_app, x_app0, x_app1, x_for, x_for1, x_fl1, x_fl2, x_fl3, x_fl4, x_fl5, x_fl6, x_turn, x_its, x_its1, x_its2, x_its3, x_rg1, x_rg2, x_rg21, x_en, x_en1, x_zp, x_zp1, x_zp2, x_zp3, x_st, x_st0, x_st1, x_st2, x_st3, x_yes, x_lc2, x_rA1, x_rA2, x_rF1, x_rI1, x_rI2, x_wh1, x_wh2, x_wh3, x_wh4, x_wh5, o_add, o_sub, o_neg, o_lt, o_le, o_gt, o_ge, o_eq, o_ne, o_eqB, o_neB, o_int, o_abs, o_max, o_min, o_lenL, o_lenT, o_ix0, o_ix1, o_ixl0, o_ixl1, o_ixl2, o_isi, o_isi2, o_isN, o_notN, o_isB, o_notB, x_A0, x_F0, x_I0, x_A1, x_F1, x_I1, x_A2, x_F2, x_I2, x_A3, x_F3, x_I3, x_A4, x_F4, x_I4, x_A5, x_F5, x_I5, x_A6, x_F6, x_I6, x_A7, x_F7, x_I7, x_A8, x_F8, x_I8, x_wi0, x_wi, x_re0, x_re, x_re1, x_ok0, x_ok, x_ok1, x_ok2, o_not0, x_g0, x_gS, x_s0, x_sS, x_bs, x_bn, x_ms, x_isNnone, x_isNbool, x_isNint, x_isNstr, x_isNlist, x_isNtuple, x_isNdict, x_tyintnone, x_tyintbool, x_tyintint, x_tyintstr, x_tyintlist, x_tyinttuple, x_tyintdict, x_tyboolnone, x_tyboolbool, x_tyboolint, x_tyboolstr, x_tyboollist, x_tybooltuple, x_tybooldict, x_tystrnone, x_tystrbool, x_tystrint, x_tystrstr, x_tystrlist, x_tystrtuple, x_tystrdict, x_tytupnone, x_tytupbool, x_tytupint, x_tytupstr, x_tytuplist, x_tytuptuple, x_tytupdict, x_tylstnone, x_tylstbool, x_tylstint, x_tylststr, x_tylstlist, x_tylsttuple, x_tylstdict, x_tydctnone, x_tydctbool, x_tydctint, x_tydctstr, x_tydctlist, x_tydcttuple, x_tydctdict, x_be0, x_bn0, x_be1, x_bn1, x_be2, x_bn2, x_be3, x_bn3, List.length_cons, List.length_nil, List.map_cons, List.map_nil, List.replicate, List.cons_append, List.nil_append, List.append_nil, startE, pick, List.filterMap_cons, List.filterMap_nil, Bool.or_false, Bool.false_or, Bool.or_true, Bool.true_or, Bool.and_true, Bool.true_and, Bool.and_false, Bool.false_and, Bool.not_true, Bool.not_false, Bool.not_not, decide_true, decide_false, Int.cast_ofNat_Int, Nat.reduceAdd, Nat.zero_add, Int.reduceEq, Int.reduceLT, Int.reduceLE, Int.reduceGT, Int.reduceGE, Int.reduceAdd, Int.reduceSub, Int.reduceMul, Int.reduceNeg, Int.reducePow, Int.reduceToNat]
end
/-! the window's truth -/
section
variable {r o : Int × Int} {H : Int}
theorem nums_len (f s lo hi : Int) : (nums f s lo hi).length ≤ (hi - lo).toNat := by
  unfold nums
  refine Nat.le_trans (List.length_filter_le _ _) ?_
  rw [List.length_map, List.length_range]
  exact Nat.le_refl _
theorem both_met {m : Int × Int} (h : IsMt r o (some m)) : (nums r.1 r.2 (-H) H).filter (fun n => decide (n ∈ nums o.1 o.2 (-H) H)) = nums m.1 m.2 (-H) H := by
  have e : ∀ l : List Int, (∀ n ∈ l, -H ≤ n ∧ n < H) → (l.filter (inQ r.1 r.2)).filter (fun n => decide (n ∈ nums o.1 o.2 (-H) H)) = l.filter (inQ m.1 m.2) := by
    intro l hl
    rw [List.filter_filter]
    refine List.filter_congr fun n hn => ?_
    rw [Bool.eq_iff_iff, Bool.and_eq_true, inQ_iff, inQ_iff, decide_eq_true_iff, mem_nums, h.2 n]
    have := hl n hn
    exact ⟨fun z => ⟨z.2, z.1.2.2⟩, fun z => ⟨⟨this.1, this.2, z.2⟩, z.1⟩⟩
  refine e _ fun n hn => ?_
  obtain ⟨i, hi, rfl⟩ := List.mem_map.mp hn
  rw [List.mem_range] at hi
  omega
theorem both_none (h : IsMt r o none) : (nums r.1 r.2 (-H) H).filter (fun n => decide (n ∈ nums o.1 o.2 (-H) H)) = [] := by
  rw [List.filter_eq_nil_iff]
  intro n hn hb
  rw [decide_eq_true_iff] at hb
  exact h n ⟨(mem_nums.mp hn).2.2, (mem_nums.mp hb).2.2⟩
/-- a first number of what is met lies in the window -/
theorem met_near {m : Int × Int} (h : IsMt r o (some m)) (hr : Can r.1 r.2) (ho : Can o.1 o.2) (f1 : -12 ≤ r.1 ∧ r.1 ≤ 12) (g1 : -12 ≤ o.1 ∧ o.1 ≤ 12) (hH : 60 ≤ H) (hst : r.2 * o.2 + 60 ≤ H) : -H ≤ m.1 ∧ m.1 < H := by
  have hm := (h.2 m.1).mp (mem_self _ _)
  by_cases e : r.2 = 0
  · have := zero_dvd' (show (0 : Int) ∣ m.1 - r.1 by have := hm.1; unfold Mem at this; rwa [e] at this)
    omega
  · by_cases e2 : o.2 = 0
    · have := zero_dvd' (show (0 : Int) ∣ m.1 - o.1 by have := hm.2; unfold Mem at this; rwa [e2] at this)
      omega
    · have hs : 0 < r.2 := by have := hr.1; omega
      have ht : 0 < o.2 := by have := ho.1; omega
      have hp : 0 < r.2 * o.2 := Int.mul_pos hs ht
      have h2 : Mem m.1 m.2 (m.1 + r.2 * o.2) := (h.2 _).mpr (by
        obtain ⟨⟨a, ha⟩, ⟨b, hb⟩⟩ := hm
        exact ⟨dvd_of (a + o.2) (by grind), dvd_of (b + r.2) (by grind)⟩)
      have h3 : m.2 ∣ r.2 * o.2 := by
        have : m.1 + r.2 * o.2 - m.1 = r.2 * o.2 := by omega
        unfold Mem at h2
        rwa [this] at h2
      have h4 := Int.le_of_dvd hp h3
      rcases h.1.2 with z | z
      · rw [z] at h3
        have := zero_dvd' h3
        omega
      · omega
end
end LW

set_option maxRecDepth 20000
set_option maxHeartbeats 0
namespace LW
open PySem PySem.Spec PyProof.Rows L2 MP RT
theorem o_eqL0 (as : List Int) : eqD [.list (as.map .int), .list []] = some (.bool (decide (as = []))) := o_eqL as []
theorem o_neL0 (as : List Int) : neD [.list (as.map .int), .list []] = some (.bool (!decide (as = []))) := o_neL as []
theorem o_intB (b : Bool) : MP.intD [.bool b] = some (.int (if b = true then 1 else 0)) := id rfl
theorem okS_eR (n : Nat) (r : Int × Int) : okS (n + 1) (eR r) := ⟨by show 2 ≤ sizeLine; decide, fun d hd => by
  rcases List.mem_cons.mp hd with h | h
  · subst h; cases n <;> exact trivial
  · rcases List.mem_cons.mp h with h | h
    · subst h; cases n <;> exact trivial
    · cases h⟩
theorem okS_eO (n : Nat) (M : Option (Int × Int)) : okS (n + 1) (eO M) := by
  cases M with
  | none => exact trivial
  | some r => exact okS_eR n r
theorem okS_bool (n : Nat) (b : Bool) : okS n (.bool b) := by cases n <;> exact trivial
theorem okS_l {n : Nat} {ds : List D} (h : ds.length ≤ 1000) (h' : ∀ d ∈ ds, okS n d) : okS (n + 1) (.list ds) := ⟨Nat.le_trans h (by decide), h'⟩
theorem all_nil {n : Nat} : ∀ d ∈ ([] : List D), okS n d := fun d h => by cases h
theorem all_cons {n : Nat} {d : D} {ds : List D} (h : okS n d) (t : ∀ d ∈ ds, okS n d) : ∀ e ∈ d :: ds, okS n e := fun e he => by
  rcases List.mem_cons.mp he with z | z
  · subst z; exact h
  · exact t e z
theorem fr_snd (f s : Int) : (fr f s).2 = s := by
  unfold fr; split
  · rename_i h; exact h.symm
  · rfl
theorem jn_le {r o : Int × Int} (hr : Can r.1 r.2) (ho : Can o.1 o.2) (f1 : -12 ≤ r.1 ∧ r.1 ≤ 12 ∧ r.2 ≤ 12) (g1 : -12 ≤ o.1 ∧ o.1 ≤ 12 ∧ o.2 ≤ 12) : 0 ≤ (jn r o).2 ∧ (jn r o).2 ≤ 24 := by
  unfold jn
  rw [fr_snd]
  refine ⟨gc_nn _ _, ?_⟩
  have h1 := dvd_gc.mp (Int.dvd_refl (gc (gc r.2 o.2) ((r.1 - o.1).natAbs : Int)))
  by_cases e : r.1 = o.1
  · have e' : ((r.1 - o.1).natAbs : Int) = 0 := by omega
    rw [e', gc_zero (gc_nn _ _)]
    have h2 := dvd_gc.mp (Int.dvd_refl (gc r.2 o.2))
    by_cases e2 : o.2 = 0
    · rw [e2, gc_zero hr.1]; omega
    · have := Int.le_of_dvd (show 0 < o.2 by have := ho.1; omega) h2.2
      omega
  · have := Int.le_of_dvd (by omega) h1.2
    omega
theorem rep_one (ds : List D) (h : ds.length ≤ sizeLine) : repD [.list ds, .int 1] = some (.list ds) := by
  simp only [repD]
  rw [if_pos ⟨by decide, by decide, by simpa using h⟩]
  simp
theorem rep_zero (ds : List D) : repD [.list ds, .int 0] = some (.list []) := by
  simp only [repD]
  rw [if_pos ⟨by decide, by decide, by simp⟩]
  rfl
def optNums (H : Int) : Option (Int × Int) → List Int
  | none => []
  | some m => nums m.1 m.2 (-H) H
theorem e_window (c : D) {r o : Int × Int} (hr : Can r.1 r.2) (ho : Can o.1 o.2) (f1 : -12 ≤ r.1 ∧ r.1 ≤ 12 ∧ r.2 ≤ 12) (g1 : -12 ≤ o.1 ∧ o.1 ≤ 12 ∧ o.2 ≤ 12) : sem__law_window_right [c, eR r, eR o] = some (.bool true) := by
  have sm : ∀ x : Int, -12 ≤ x → x ≤ 12 → Sm x := fun x a b => Nat.lt_of_lt_of_le (show x.natAbs < 2 ^ 5 by omega) (Nat.pow_le_pow_right (by decide) (by decide))
  have hr0 := hr.1
  have ho0 := ho.1
  obtain ⟨M, eM, hM⟩ := e_met r o hr ho (sm _ f1.1 f1.2.1) (sm _ (by omega) f1.2.2) (sm _ g1.1 g1.2.1) (sm _ (by omega) g1.2.2)
  obtain ⟨M', eM', hM'⟩ := e_met o r ho hr (sm _ g1.1 g1.2.1) (sm _ (by omega) g1.2.2) (sm _ f1.1 f1.2.1) (sm _ (by omega) f1.2.2)
  obtain rfl : M' = M := isMt_uniq hM' (isMt_comm hM)
  have eJ := e_joined r o hr ho
  have eJ' := e_joined o r ho hr
  rw [jn_comm o r] at eJ'
  have cJ := jn_can r o
  have bJ := jn_le hr ho f1 g1
  have sJ1 := jn_left r o
  have sJ2 := jn_right r o
  have lJ := fun h d => jn_sub r o h d
  generalize hJ : jn r o = J at *
  have a1 : 0 ≤ max r.2 1 ∧ max r.2 1 ≤ 12 := by omega
  have a2 : 0 ≤ max o.2 1 ∧ max o.2 1 ≤ 12 := by omega
  have a3 : 2 * max r.2 1 * max o.2 1 ≤ 24 * 12 := Int.mul_le_mul (by omega) a2.2 a2.1 (by decide)
  have a4 : r.2 * o.2 ≤ max r.2 1 * max o.2 1 := Int.mul_le_mul (by omega) (by omega) ho0 a1.1
  have a5 : 0 ≤ max r.2 1 * max o.2 1 := Int.mul_nonneg a1.1 a2.1
  have m1 := o_mul (i := 2) (j := max r.2 1) (lim (by decide)) (lim (by omega))
  have m2 := o_mul (i := 2 * max r.2 1) (j := max o.2 1) (lim (by omega)) (lim (by omega))
  have a6 : 2 * max r.2 1 * max o.2 1 = 2 * (max r.2 1 * max o.2 1) := by rw [Int.mul_assoc]
  generalize hH : 2 * max r.2 1 * max o.2 1 + 60 = H at *
  have hH1 : 60 ≤ H ∧ H ≤ 348 := by omega
  have hst : r.2 * o.2 + 60 ≤ H := by omega
  have sl : ∀ n : Nat, n ≤ 5000 → n ≤ sizeLine := fun n h => Nat.le_trans h (by decide)
  have hwin : (H - -H).toNat ≤ 696 := by omega
  have nR := e_numbers r (lo := -H) (hi := H) hr0 (by omega) (by omega) (by omega) (by omega) (sl _ (by omega))
  have nO := e_numbers o (lo := -H) (hi := H) ho0 (by omega) (by omega) (by omega) (by omega) (sl _ (by omega))
  have lR := nums_len r.1 r.2 (-H) H
  have lO := nums_len o.1 o.2 (-H) H
  have memR : ∀ n, n ∈ nums r.1 r.2 (-H) H ↔ -H ≤ n ∧ n < H ∧ Mem r.1 r.2 n := fun n => mem_nums
  have memO : ∀ n, n ∈ nums o.1 o.2 (-H) H ↔ -H ≤ n ∧ n < H ∧ Mem o.1 o.2 n := fun n => mem_nums
  have hboth : (nums r.1 r.2 (-H) H).filter (fun n => decide (n ∈ nums o.1 o.2 (-H) H)) = optNums H M' := by
    cases M' with
    | none => exact both_none hM
    | some m => exact both_met hM
  have hnear : ∀ m, M' = some m → nums m.1 m.2 (-H) H ≠ [] := by
    rintro m rfl z
    have := met_near hM hr ho ⟨f1.1, f1.2.1⟩ ⟨g1.1, g1.2.1⟩ hH1.1 hst
    have := mem_nums.mpr ⟨this.1, this.2, mem_self m.1 m.2⟩
    rw [z] at this
    cases this
  generalize hA : nums r.1 r.2 (-H) H = A at *
  generalize hB : nums o.1 o.2 (-H) H = B at *
  have hout : (A ++ B).filter (fun n => !inQ J.1 J.2 n) = [] := by
    rw [List.filter_eq_nil_iff]
    intro n hn
    have : Mem J.1 J.2 n := by
      rcases List.mem_append.mp hn with z | z
      · exact sub_mem.mpr sJ1 n ((memR n).mp z).2.2
      · exact sub_mem.mpr sJ2 n ((memO n).mp z).2.2
    rw [(inQ_iff _ _ _).mpr this]
    decide
  have inA1 : r.1 ∈ A := (memR _).mpr ⟨by omega, by omega, mem_self _ _⟩
  have inA2 : r.1 + r.2 ∈ A := (memR _).mpr ⟨by omega, by omega, mem_next _ _⟩
  have inB1 : o.1 ∈ B := (memO _).mpr ⟨by omega, by omega, mem_self _ _⟩
  have inB2 : o.1 + o.2 ∈ B := (memO _).mpr ⟨by omega, by omega, mem_next _ _⟩
  have hstep : ∀ s : Int, J.2 < s → 0 < J.2 → (dedup [] ((A ++ B).map fun n => n % s)).length ≠ 1 := by
    intro s h1 h0 e
    have all := dedup_all e
    have dv : ∀ x ∈ A ++ B, ∀ y ∈ A ++ B, s ∣ x - y := fun x hx y hy => by
      have := all _ (List.mem_map.mpr ⟨x, hx, rfl⟩) _ (List.mem_map.mpr ⟨y, hy, rfl⟩)
      exact Int.dvd_of_emod_eq_zero (Int.emod_eq_emod_iff_emod_sub_eq_zero.mp this)
    have d1 := dv _ (List.mem_append_left B inA2) _ (List.mem_append_left B inA1)
    have d2 := dv _ (List.mem_append_right A inB2) _ (List.mem_append_right A inB1)
    have d3 := dv _ (List.mem_append_right A inB1) _ (List.mem_append_left B inA1)
    rw [show r.1 + r.2 - r.1 = r.2 by omega] at d1
    rw [show o.1 + o.2 - o.1 = o.2 by omega] at d2
    have := ((lJ r.1 s).mpr ⟨⟨by rw [Int.sub_self]; exact Int.dvd_zero s, d1⟩, ⟨d3, d2⟩⟩).2
    have := Int.le_of_dvd h0 this
    omega
  have hwith : decide (A.filter (fun n => !decide (n ∈ B)) = []) = subQ r o := by
    rw [Bool.eq_iff_iff, decide_eq_true_iff, subQ_iff hr ho, List.filter_eq_nil_iff]
    constructor
    · intro h
      have go : ∀ n ∈ A, n ∈ B := fun n hn => by
        have := h n hn
        simpa using this
      have h1 := ((memO _).mp (go _ inA1)).2.2
      have h2 := ((memO _).mp (go _ inA2)).2.2
      refine ⟨h1, ?_⟩
      obtain ⟨x, hx⟩ := h1
      obtain ⟨y, hy⟩ := h2
      exact dvd_of (y - x) (by grind)
    · intro h n hn
      have := (memR n).mp hn
      have : n ∈ B := (memO n).mpr ⟨this.1, this.2.1, sub_mem.mpr h n this.2.2⟩
      simp [this]
  have wJ1 : subQ r J = true := (subQ_iff hr cJ).mpr sJ1
  have wJ2 : subQ o J = true := (subQ_iff ho cJ).mpr sJ2
  have eW := e_within r o hr ho
  have eW1 := e_within r J hr cJ
  have eW2 := e_within o J ho cJ
  have iJ := e_is_rest cJ
  have s1 := e_same 11 (.list [eO M', eR J]) (okS_l (by simp) (all_cons (okS_eO _ _) (all_cons (okS_eR _ _) all_nil)))
  have s2 := e_same 11 (.list [.bool (subQ r o), .bool (subQ r o)]) (okS_l (by simp) (all_cons (okS_bool _ _) (all_cons (okS_bool _ _) all_nil)))
  have s3 := e_same 11 (.list [eO M', eR J, .bool true, .bool true]) (okS_l (by simp) (all_cons (okS_eO _ _) (all_cons (okS_eR _ _) (all_cons (okS_bool _ _) (all_cons (okS_bool _ _) all_nil)))))
  have hAB : A.length + B.length ≤ sizeLine := sl _ (by omega)
  have cat := o_cat hAB
  have zA : (A.map PyData.int).length ≤ sizeLine := by rw [List.length_map]; exact sl _ (by omega)
  have zAB : ((A ++ B).map PyData.int).length ≤ sizeLine := by rw [List.length_map, List.length_append]; exact hAB
  have rng : rngLD [.int (J.2 + 1), .int (J.2 + 40)] = some (.list (intsD (J.2 + 1) 39)) := by
    have e : (J.2 + 40 - (J.2 + 1)).toNat = 39 := by omega
    show (if _ then _ else _) = _
    rw [e, if_pos ⟨rb_ok (by omega) (by omega), rb_ok (by omega) (by omega), sl _ (by decide)⟩]
  -- the loop goes through
  have loop : ∀ (m3 m6 m7 : D), ∃ c9, forL (tgName 9) fb__law_window_right_8 (if 0 < J.2 then intsD (J.2 + 1) 39 else []) [.sh c, .sh (eR r), .sh (eR o), .sh m3, .sh (.list (A.map .int)), .sh (.list (B.map .int)), .sh m6, .sh m7, .sh (eR J), .no, .no, .no] =
      some (.nx [.sh c, .sh (eR r), .sh (eR o), .sh m3, .sh (.list (A.map .int)), .sh (.list (B.map .int)), .sh m6, .sh m7, .sh (eR J), c9, .no, .no]) := by
    intro m3 m6 m7
    by_cases e0 : 0 < J.2
    · rw [if_pos e0]
      obtain ⟨ρ', e1, c9, rfl⟩ := forL_inv (t := tgName 9) (b := fb__law_window_right_8) (fun _ ρ => ∃ c9, ρ = [.sh c, .sh (eR r), .sh (eR o), .sh m3, .sh (.list (A.map .int)), .sh (.list (B.map .int)), .sh m6, .sh m7, .sh (eR J), c9, .no, .no]) (intsD (J.2 + 1) 39) 0 _ ⟨.no, rfl⟩ (by
        rintro j x ρ hx ⟨c9, rfl⟩
        have hj : j < 39 := by
          have := (List.getElem?_eq_some_iff.mp hx).1
          rwa [intsD_length] at this
        rw [intsD_get hj] at hx
        cases hx
        refine ⟨[.sh c, .sh (eR r), .sh (eR o), .sh m3, .sh (.list (A.map .int)), .sh (.list (B.map .int)), .sh m6, .sh m7, .sh (eR J), .sh (.int (J.2 + 1 + (j : Nat))), .no, .no], .inl ?_, _, rfl⟩
        have hs := hstep (J.2 + 1 + (j : Nat)) (by omega) e0
        have hs' : ¬ (((dedup [] ((A ++ B).map fun n => n % (J.2 + 1 + (j : Nat)))).length : Nat) : Int) = 1 := fun z => hs (by omega)
        have w := w_mod (.sh c) (.sh (eR r)) (.sh (eR o)) (.sh m3) (.sh (.list (A.map .int))) (.sh (.list (B.map .int))) (.sh m6) (.sh m7) (.sh (eR J)) .no (A ++ B) (s := J.2 + 1 + (j : Nat)) (by omega)
        have ls := o_lenSet (ns := (A ++ B).map fun n => n % (J.2 + 1 + (j : Nat))) (by rw [List.length_map, List.length_append]; omega)
        rw [fb__law_window_right_8]
        simp only [cat, x_lc, x_lc1, zAB, w, ls, hs', x_seq, x_seq1, x_seq2, x_seq3, x_seq4, x_seq5, x_asg, x_asg1, x_asgF, x_asgF1, x_exp, x_exp1, x_ret, x_ret1, x_retF, x_retF1, x_retN, x_skip, x_brk, x_cnt, x_if, x_if1, x_if2, x_and, x_and1, x_and2, x_or, x_or1, x_or2, x_not, x_not1, x_bool, x_bool1, x_andV, x_andV1, x_andV2, x_orV, x_orV1, x_orV2, x_notV, x_notV1, x_ifV, x_ifV1, x_ifV2, x_cE, x_nm, x_nm1, x_nm2, x_rd, x_rd1, x_rd2, x_rd3, x_ev0, x_ev, x_ev1, x_ev2, x_pk, x_pk1, x_pk2, x_pk3, x_vv0, x_vv, x_vv1, x_op, x_op1, x_op2, x_ca, x_ck, x_ci, x_ci0, x_ci1, x_ci2, x_ci3, x_ci4, x_ci5, x_tup, x_tup1, x_lst, x_lst1, x_ch, x_ch1, x_ch2, x_ch3, x_ch4, x_ch5, x_asgT, x_asgT1, x_nx, x_par, x_par1, x_par2, x_par3, x_par31, x_par32, x_par33, x_tn, x_t0, x_tc, x_ts, x_ts0, x_ts1, x_up1, x_up2, x_upO, x_upI, x_app, x_app0, x_app1, x_for, x_for1, x_fl1, x_fl2, x_fl3, x_fl4, x_fl5, x_fl6, x_turn, x_its, x_its1, x_its2, x_its3, x_rg1, x_rg2, x_rg21, x_en, x_en1, x_zp, x_zp1, x_zp2, x_zp3, x_st, x_st0, x_st1, x_st2, x_st3, x_yes, x_lc2, x_rA1, x_rA2, x_rF1, x_rI1, x_rI2, x_wh1, x_wh2, x_wh3, x_wh4, x_wh5, o_add, o_sub, o_neg, o_lt, o_le, o_gt, o_ge, o_eq, o_ne, o_eqB, o_neB, o_int, o_abs, o_max, o_min, o_lenL, o_lenT, o_ix0, o_ix1, o_ixl0, o_ixl1, o_ixl2, o_isi, o_isi2, o_isN, o_notN, o_isB, o_notB, x_A0, x_F0, x_I0, x_A1, x_F1, x_I1, x_A2, x_F2, x_I2, x_A3, x_F3, x_I3, x_A4, x_F4, x_I4, x_A5, x_F5, x_I5, x_A6, x_F6, x_I6, x_A7, x_F7, x_I7, x_A8, x_F8, x_I8, x_wi0, x_wi, x_re0, x_re, x_re1, x_ok0, x_ok, x_ok1, x_ok2, o_not0, x_g0, x_gS, x_s0, x_sS, x_bs, x_bn, x_ms, x_isNnone, x_isNbool, x_isNint, x_isNstr, x_isNlist, x_isNtuple, x_isNdict, x_tyintnone, x_tyintbool, x_tyintint, x_tyintstr, x_tyintlist, x_tyinttuple, x_tyintdict, x_tyboolnone, x_tyboolbool, x_tyboolint, x_tyboolstr, x_tyboollist, x_tybooltuple, x_tybooldict, x_tystrnone, x_tystrbool, x_tystrint, x_tystrstr, x_tystrlist, x_tystrtuple, x_tystrdict, x_tytupnone, x_tytupbool, x_tytupint, x_tytupstr, x_tytuplist, x_tytuptuple, x_tytupdict, x_tylstnone, x_tylstbool, x_tylstint, x_tylststr, x_tylstlist, x_tylsttuple, x_tylstdict, x_tydctnone, x_tydctbool, x_tydctint, x_tydctstr, x_tydctlist, x_tydcttuple, x_tydctdict, x_be0, x_bn0, x_be1, x_bn1, x_be2, x_bn2, x_be3, x_bn3, List.length_cons, List.length_nil, List.map_cons, List.map_nil, List.replicate, List.cons_append, List.nil_append, List.append_nil, startE, pick, List.filterMap_cons, List.filterMap_nil, Bool.or_false, Bool.false_or, Bool.or_true, Bool.true_or, Bool.and_true, Bool.true_and, Bool.and_false, Bool.false_and, Bool.not_true, Bool.not_false, Bool.not_not, decide_true, decide_false, Int.cast_ofNat_Int, Nat.reduceAdd, Nat.zero_add, Int.reduceEq, Int.reduceLT, Int.reduceLE, Int.reduceGT, Int.reduceGE, Int.reduceAdd, Int.reduceSub, Int.reduceMul, Int.reduceNeg, Int.reducePow, Int.reduceToNat])
      exact ⟨c9, e1⟩
    · rw [if_neg e0]
      exact ⟨.no, rfl⟩
  obtain ⟨c9, loop⟩ := loop (.int H) (.list ((A.filter fun n => decide (n ∈ B)).map .int)) (eO M')
  have wb := w_both (.sh c) (.sh (eR r)) (.sh (eR o)) (.sh (.int H)) (.sh (.list (A.map .int))) .no .no .no .no .no A B
  have wo := w_out (.sh c) (.sh (eR r)) (.sh (eR o)) (.sh (.int H)) (.sh (.list (A.map .int))) (.sh (.list (B.map .int))) (.sh (.list ((A.filter fun n => decide (n ∈ B)).map .int))) (.sh (eO M')) .no .no (A ++ B) J cJ.1
  have wn := w_nin (.sh c) (.sh (eR r)) (.sh (eR o)) (.sh (.int H)) (.sh (.list (A.map .int))) (.sh (.list ((A.filter fun n => decide (n ∈ B)).map .int))) (.sh (eO M')) (.sh (eR J)) c9 .no A B
  have rp : repD [.list (intsD (J.2 + 1) 39), .int (if decide (J.2 > 0) = true then 1 else 0)] = some (.list (if 0 < J.2 then intsD (J.2 + 1) 39 else [])) := by
    by_cases e0 : 0 < J.2
    · rw [if_pos e0, decide_eq_true (show J.2 > 0 from e0), if_pos rfl, rep_one _ (by rw [intsD_length]; decide)]
    · rw [if_neg e0, decide_eq_false (show ¬ J.2 > 0 from e0), if_neg (by decide), rep_zero]
  rw [sem__law_window_right, g__law_window_right]
  have tt := fun (a b : D) (u : List D → Env' → Option Env') (ρ : Env') => x_tt 2 u [a, b] ρ rfl
  have z0 : eqD [.list [], .list []] = some (.bool true) := o_eqL [] []
  have z1 : neD [.list [], .list []] = some (.bool false) := o_neL [] []
  have en : eO none = .none := rfl
  cases M' with
  | none =>
    rw [show optNums H none = [] from rfl] at hboth
    rw [hboth] at wb wo wn loop
    rw [en] at s1 s3 eM eM' wo wn loop
    rw [List.map_nil] at wb wo wn loop
    simp only [m1, m2, hH, nR, nO, tt, x_lc, x_lc1, zA, zAB, wb, eM, eJ, s1, o_eqL0, hA, hB, cat, wo, hout, iJ, rng, o_intB, rp, loop, wn, hwith, eW, s2, eM', eJ', eW1, eW2, wJ1, wJ2, s3, o_neL0, z0, z1, List.map_nil, en, x_seq, x_seq1, x_seq2, x_seq3, x_seq4, x_seq5, x_asg, x_asg1, x_asgF, x_asgF1, x_exp, x_exp1, x_ret, x_ret1, x_retF, x_retF1, x_retN, x_skip, x_brk, x_cnt, x_if, x_if1, x_if2, x_and, x_and1, x_and2, x_or, x_or1, x_or2, x_not, x_not1, x_bool, x_bool1, x_andV, x_andV1, x_andV2, x_orV, x_orV1, x_orV2, x_notV, x_notV1, x_ifV, x_ifV1, x_ifV2, x_cE, x_nm, x_nm1, x_nm2, x_rd, x_rd1, x_rd2, x_rd3, x_ev0, x_ev, x_ev1, x_ev2, x_pk, x_pk1, x_pk2, x_pk3, x_vv0, x_vv, x_vv1, x_op, x_op1, x_op2, x_ca, x_ck, x_ci, x_ci0, x_ci1, x_ci2, x_ci3, x_ci4, x_ci5, x_tup, x_tup1, x_lst, x_lst1, x_ch, x_ch1, x_ch2, x_ch3, x_ch4, x_ch5, x_asgT, x_asgT1, x_nx, x_par, x_par1, x_par2, x_par3, x_par31, x_par32, x_par33, x_tn, x_t0, x_tc, x_ts, x_ts0, x_ts1, x_up1, x_up2, x_upO, x_upI, x_app, x_app0, x_app1, x_for, x_for1, x_fl1, x_fl2, x_fl3, x_fl4, x_fl5, x_fl6, x_turn, x_its, x_its1, x_its2, x_its3, x_rg1, x_rg2, x_rg21, x_en, x_en1, x_zp, x_zp1, x_zp2, x_zp3, x_st, x_st0, x_st1, x_st2, x_st3, x_yes, x_lc2, x_rA1, x_rA2, x_rF1, x_rI1, x_rI2, x_wh1, x_wh2, x_wh3, x_wh4, x_wh5, o_add, o_sub, o_neg, o_lt, o_le, o_gt, o_ge, o_eq, o_ne, o_eqB, o_neB, o_int, o_abs, o_max, o_min, o_lenL, o_lenT, o_ix0, o_ix1, o_ixl0, o_ixl1, o_ixl2, o_isi, o_isi2, o_isN, o_notN, o_isB, o_notB, x_A0, x_F0, x_I0, x_A1, x_F1, x_I1, x_A2, x_F2, x_I2, x_A3, x_F3, x_I3, x_A4, x_F4, x_I4, x_A5, x_F5, x_I5, x_A6, x_F6, x_I6, x_A7, x_F7, x_I7, x_A8, x_F8, x_I8, x_wi0, x_wi, x_re0, x_re, x_re1, x_ok0, x_ok, x_ok1, x_ok2, o_not0, x_g0, x_gS, x_s0, x_sS, x_bs, x_bn, x_ms, x_isNnone, x_isNbool, x_isNint, x_isNstr, x_isNlist, x_isNtuple, x_isNdict, x_tyintnone, x_tyintbool, x_tyintint, x_tyintstr, x_tyintlist, x_tyinttuple, x_tyintdict, x_tyboolnone, x_tyboolbool, x_tyboolint, x_tyboolstr, x_tyboollist, x_tybooltuple, x_tybooldict, x_tystrnone, x_tystrbool, x_tystrint, x_tystrstr, x_tystrlist, x_tystrtuple, x_tystrdict, x_tytupnone, x_tytupbool, x_tytupint, x_tytupstr, x_tytuplist, x_tytuptuple, x_tytupdict, x_tylstnone, x_tylstbool, x_tylstint, x_tylststr, x_tylstlist, x_tylsttuple, x_tylstdict, x_tydctnone, x_tydctbool, x_tydctint, x_tydctstr, x_tydctlist, x_tydcttuple, x_tydctdict, x_be0, x_bn0, x_be1, x_bn1, x_be2, x_bn2, x_be3, x_bn3, List.length_cons, List.length_nil, List.map_cons, List.map_nil, List.replicate, List.cons_append, List.nil_append, List.append_nil, startE, pick, List.filterMap_cons, List.filterMap_nil, Bool.or_false, Bool.false_or, Bool.or_true, Bool.true_or, Bool.and_true, Bool.true_and, Bool.and_false, Bool.false_and, Bool.not_true, Bool.not_false, Bool.not_not, decide_true, decide_false, Int.cast_ofNat_Int, Nat.reduceAdd, Nat.zero_add, Int.reduceEq, Int.reduceLT, Int.reduceLE, Int.reduceGT, Int.reduceGE, Int.reduceAdd, Int.reduceSub, Int.reduceMul, Int.reduceNeg, Int.reducePow, Int.reduceToNat]
  | some m =>
    rw [show optNums H (some m) = nums m.1 m.2 (-H) H from rfl] at hboth
    have es : eO (some m) = eR m := rfl
    have im := e_is_rest hM.1
    have nM := e_numbers m (lo := -H) (hi := H) hM.1.1 (by omega) (by omega) (by omega) (by omega) (sl _ (by omega))
    have nn := hnear m rfl
    have neq := o_neL (nums m.1 m.2 (-H) H) (nums m.1 m.2 (-H) H)
    rw [decide_eq_true rfl] at neq
    rw [hboth] at wb wo wn loop
    rw [es] at s1 s3 eM eM' wo wn loop
    simp only [m1, m2, hH, nR, nO, tt, x_lc, x_lc1, zA, zAB, wb, eM, eJ, s1, o_eqL0, hA, hB, cat, wo, hout, iJ, im, nM, nn, neq, rng, o_intB, rp, loop, wn, hwith, eW, s2, eM', eJ', eW1, eW2, wJ1, wJ2, s3, o_neL0, z0, z1, List.map_nil, es, x_seq, x_seq1, x_seq2, x_seq3, x_seq4, x_seq5, x_asg, x_asg1, x_asgF, x_asgF1, x_exp, x_exp1, x_ret, x_ret1, x_retF, x_retF1, x_retN, x_skip, x_brk, x_cnt, x_if, x_if1, x_if2, x_and, x_and1, x_and2, x_or, x_or1, x_or2, x_not, x_not1, x_bool, x_bool1, x_andV, x_andV1, x_andV2, x_orV, x_orV1, x_orV2, x_notV, x_notV1, x_ifV, x_ifV1, x_ifV2, x_cE, x_nm, x_nm1, x_nm2, x_rd, x_rd1, x_rd2, x_rd3, x_ev0, x_ev, x_ev1, x_ev2, x_pk, x_pk1, x_pk2, x_pk3, x_vv0, x_vv, x_vv1, x_op, x_op1, x_op2, x_ca, x_ck, x_ci, x_ci0, x_ci1, x_ci2, x_ci3, x_ci4, x_ci5, x_tup, x_tup1, x_lst, x_lst1, x_ch, x_ch1, x_ch2, x_ch3, x_ch4, x_ch5, x_asgT, x_asgT1, x_nx, x_par, x_par1, x_par2, x_par3, x_par31, x_par32, x_par33, x_tn, x_t0, x_tc, x_ts, x_ts0, x_ts1, x_up1, x_up2, x_upO, x_upI, x_app, x_app0, x_app1, x_for, x_for1, x_fl1, x_fl2, x_fl3, x_fl4, x_fl5, x_fl6, x_turn, x_its, x_its1, x_its2, x_its3, x_rg1, x_rg2, x_rg21, x_en, x_en1, x_zp, x_zp1, x_zp2, x_zp3, x_st, x_st0, x_st1, x_st2, x_st3, x_yes, x_lc2, x_rA1, x_rA2, x_rF1, x_rI1, x_rI2, x_wh1, x_wh2, x_wh3, x_wh4, x_wh5, o_add, o_sub, o_neg, o_lt, o_le, o_gt, o_ge, o_eq, o_ne, o_eqB, o_neB, o_int, o_abs, o_max, o_min, o_lenL, o_lenT, o_ix0, o_ix1, o_ixl0, o_ixl1, o_ixl2, o_isi, o_isi2, o_isN, o_notN, o_isB, o_notB, x_A0, x_F0, x_I0, x_A1, x_F1, x_I1, x_A2, x_F2, x_I2, x_A3, x_F3, x_I3, x_A4, x_F4, x_I4, x_A5, x_F5, x_I5, x_A6, x_F6, x_I6, x_A7, x_F7, x_I7, x_A8, x_F8, x_I8, x_wi0, x_wi, x_re0, x_re, x_re1, x_ok0, x_ok, x_ok1, x_ok2, o_not0, x_g0, x_gS, x_s0, x_sS, x_bs, x_bn, x_ms, x_isNnone, x_isNbool, x_isNint, x_isNstr, x_isNlist, x_isNtuple, x_isNdict, x_tyintnone, x_tyintbool, x_tyintint, x_tyintstr, x_tyintlist, x_tyinttuple, x_tyintdict, x_tyboolnone, x_tyboolbool, x_tyboolint, x_tyboolstr, x_tyboollist, x_tybooltuple, x_tybooldict, x_tystrnone, x_tystrbool, x_tystrint, x_tystrstr, x_tystrlist, x_tystrtuple, x_tystrdict, x_tytupnone, x_tytupbool, x_tytupint, x_tytupstr, x_tytuplist, x_tytuptuple, x_tytupdict, x_tylstnone, x_tylstbool, x_tylstint, x_tylststr, x_tylstlist, x_tylsttuple, x_tylstdict, x_tydctnone, x_tydctbool, x_tydctint, x_tydctstr, x_tydctlist, x_tydcttuple, x_tydctdict, x_be0, x_bn0, x_be1, x_bn1, x_be2, x_bn2, x_be3, x_bn3, List.length_cons, List.length_nil, List.map_cons, List.map_nil, List.replicate, List.cons_append, List.nil_append, List.append_nil, startE, pick, List.filterMap_cons, List.filterMap_nil, Bool.or_false, Bool.false_or, Bool.or_true, Bool.true_or, Bool.and_true, Bool.true_and, Bool.and_false, Bool.false_and, Bool.not_true, Bool.not_false, Bool.not_not, decide_true, decide_false, Int.cast_ofNat_Int, Nat.reduceAdd, Nat.zero_add, Int.reduceEq, Int.reduceLT, Int.reduceLE, Int.reduceGT, Int.reduceGE, Int.reduceAdd, Int.reduceSub, Int.reduceMul, Int.reduceNeg, Int.reducePow, Int.reduceToNat]
end LW

set_option maxRecDepth 20000
set_option maxHeartbeats 0
namespace LW
open PySem PySem.Spec PyProof.Rows L2 MP RT
/-! ## moved -/
theorem in_plus {r : Int × Int} (hr : Can r.1 r.2) (n x : Int) : inQ (fr (r.1 + n) r.2).1 (fr (r.1 + n) r.2).2 (x + n) = inQ r.1 r.2 x := by
  rw [Bool.eq_iff_iff, inQ_iff, inQ_iff, fr_mem]
  unfold Mem
  rw [show x + n - (r.1 + n) = x - r.1 by omega]
theorem e_moved (c : D) {r : Int × Int} (n : Int) (hr : Can r.1 r.2) (hs : r.2 < 1000000000000) : sem__law_moved_right [c, eR r, .int n] = some (.bool true) := by
  have hr0 := hr.1
  have l1 := e_lrest (r.1 + n) hr0
  have l2 := e_lrest (n - r.1) hr0
  have p1 := e_plus r n hr
  have p2 := e_turned r n hr
  have hfp := fr_can (r.1 + n) hr0
  have inp := in_plus hr n
  generalize hP : fr (r.1 + n) r.2 = P at *
  generalize hT : fr (n - r.1) r.2 = T at *
  have s1 := e_same 11 (.list [eR P, eR P, eR T, eR T]) (okS_l (by simp) (all_cons (okS_eR _ _) (all_cons (okS_eR _ _) (all_cons (okS_eR _ _) (all_cons (okS_eR _ _) all_nil)))))
  have mu := o_mul (i := 5) (j := r.2) (lim (by decide)) (lim (by omega))
  have key : ∀ ns : List Int, ∃ c6 c7, forL (tgName 6) fb__law_moved_right_1 (ns.map .int) [.sh c, .sh (eR r), .sh (.int n), .sh (eR P), .sh (eR T), .sh (.list [eR P, eR P, eR T, eR T]), .no, .no] = some (.nx [.sh c, .sh (eR r), .sh (.int n), .sh (eR P), .sh (eR T), .sh (.list [eR P, eR P, eR T, eR T]), c6, c7]) := by
    intro ns
    obtain ⟨ρ', e1, c6, c7, rfl⟩ := forL_inv (t := tgName 6) (b := fb__law_moved_right_1) (fun _ ρ => ∃ c6 c7, ρ = [.sh c, .sh (eR r), .sh (.int n), .sh (eR P), .sh (eR T), .sh (.list [eR P, eR P, eR T, eR T]), c6, c7]) (ns.map .int) 0 _ ⟨.no, .no, rfl⟩ (by
      rintro j x ρ hx ⟨c6, c7, rfl⟩
      rw [List.getElem?_map] at hx
      obtain ⟨y, _, rfl⟩ := Option.map_eq_some_iff.mp hx
      refine ⟨[.sh c, .sh (eR r), .sh (.int n), .sh (eR P), .sh (eR T), .sh (.list [eR P, eR P, eR T, eR T]), .sh (.int y), .sh (.bool (inQ r.1 r.2 y))], .inl ?_, _, _, rfl⟩
      have s2 := e_same 11 (.list [.bool (inQ r.1 r.2 y), .bool (inQ r.1 r.2 y), .bool (inQ r.1 r.2 y)]) (okS_l (by simp) (all_cons (okS_bool _ _) (all_cons (okS_bool _ _) (all_cons (okS_bool _ _) all_nil))))
      have h1 := e_holds r y hr
      have h2 := e_holds P (y + n) hfp
      rw [inp y] at h2
      rw [fb__law_moved_right_1]
      simp only [e_lin r.1 y hr0, h1, h2, s2, x_seq, x_seq1, x_seq2, x_seq3, x_seq4, x_seq5, x_asg, x_asg1, x_asgF, x_asgF1, x_exp, x_exp1, x_ret, x_ret1, x_retF, x_retF1, x_retN, x_skip, x_brk, x_cnt, x_if, x_if1, x_if2, x_and, x_and1, x_and2, x_or, x_or1, x_or2, x_not, x_not1, x_bool, x_bool1, x_andV, x_andV1, x_andV2, x_orV, x_orV1, x_orV2, x_notV, x_notV1, x_ifV, x_ifV1, x_ifV2, x_cE, x_nm, x_nm1, x_nm2, x_rd, x_rd1, x_rd2, x_rd3, x_ev0, x_ev, x_ev1, x_ev2, x_pk, x_pk1, x_pk2, x_pk3, x_vv0, x_vv, x_vv1, x_op, x_op1, x_op2, x_ca, x_ck, x_ci, x_ci0, x_ci1, x_ci2, x_ci3, x_ci4, x_ci5, x_tup, x_tup1, x_lst, x_lst1, x_ch, x_ch1, x_ch2, x_ch3, x_ch4, x_ch5, x_asgT, x_asgT1, x_nx, x_par, x_par1, x_par2, x_par3, x_par31, x_par32, x_par33, x_tn, x_t0, x_tc, x_ts, x_ts0, x_ts1, x_up1, x_up2, x_upO, x_upI, x_app, x_app0, x_app1, x_for, x_for1, x_fl1, x_fl2, x_fl3, x_fl4, x_fl5, x_fl6, x_turn, x_its, x_its1, x_its2, x_its3, x_rg1, x_rg2, x_rg21, x_en, x_en1, x_zp, x_zp1, x_zp2, x_zp3, x_st, x_st0, x_st1, x_st2, x_st3, x_yes, x_lc2, x_rA1, x_rA2, x_rF1, x_rI1, x_rI2, x_wh1, x_wh2, x_wh3, x_wh4, x_wh5, o_add, o_sub, o_neg, o_lt, o_le, o_gt, o_ge, o_eq, o_ne, o_eqB, o_neB, o_int, o_abs, o_max, o_min, o_lenL, o_lenT, o_ix0, o_ix1, o_ixl0, o_ixl1, o_ixl2, o_isi, o_isi2, o_isN, o_notN, o_isB, o_notB, x_A0, x_F0, x_I0, x_A1, x_F1, x_I1, x_A2, x_F2, x_I2, x_A3, x_F3, x_I3, x_A4, x_F4, x_I4, x_A5, x_F5, x_I5, x_A6, x_F6, x_I6, x_A7, x_F7, x_I7, x_A8, x_F8, x_I8, x_wi0, x_wi, x_re0, x_re, x_re1, x_ok0, x_ok, x_ok1, x_ok2, o_not0, x_g0, x_gS, x_s0, x_sS, x_bs, x_bn, x_ms, x_isNnone, x_isNbool, x_isNint, x_isNstr, x_isNlist, x_isNtuple, x_isNdict, x_tyintnone, x_tyintbool, x_tyintint, x_tyintstr, x_tyintlist, x_tyinttuple, x_tyintdict, x_tyboolnone, x_tyboolbool, x_tyboolint, x_tyboolstr, x_tyboollist, x_tybooltuple, x_tybooldict, x_tystrnone, x_tystrbool, x_tystrint, x_tystrstr, x_tystrlist, x_tystrtuple, x_tystrdict, x_tytupnone, x_tytupbool, x_tytupint, x_tytupstr, x_tytuplist, x_tytuptuple, x_tytupdict, x_tylstnone, x_tylstbool, x_tylstint, x_tylststr, x_tylstlist, x_tylsttuple, x_tylstdict, x_tydctnone, x_tydctbool, x_tydctint, x_tydctstr, x_tydctlist, x_tydcttuple, x_tydctdict, x_be0, x_bn0, x_be1, x_bn1, x_be2, x_bn2, x_be3, x_bn3, List.length_cons, List.length_nil, List.map_cons, List.map_nil, List.replicate, List.cons_append, List.nil_append, List.append_nil, startE, pick, List.filterMap_cons, List.filterMap_nil, Bool.or_false, Bool.false_or, Bool.or_true, Bool.true_or, Bool.and_true, Bool.true_and, Bool.and_false, Bool.false_and, Bool.not_true, Bool.not_false, Bool.not_not, decide_true, decide_false, Int.cast_ofNat_Int, Nat.reduceAdd, Nat.zero_add, Int.reduceEq, Int.reduceLT, Int.reduceLE, Int.reduceGT, Int.reduceGE, Int.reduceAdd, Int.reduceSub, Int.reduceMul, Int.reduceNeg, Int.reducePow, Int.reduceToNat])
    exact ⟨c6, c7, e1⟩
  obtain ⟨c6, c7, k⟩ := key [n, r.1, r.1 + r.2, r.1 - 5 * r.2, r.1 + 1, 0]
  simp only [List.map_cons, List.map_nil] at k
  rw [sem__law_moved_right, g__law_moved_right]
  simp only [l1, l2, p1, p2, s1, mu, k, x_seq, x_seq1, x_seq2, x_seq3, x_seq4, x_seq5, x_asg, x_asg1, x_asgF, x_asgF1, x_exp, x_exp1, x_ret, x_ret1, x_retF, x_retF1, x_retN, x_skip, x_brk, x_cnt, x_if, x_if1, x_if2, x_and, x_and1, x_and2, x_or, x_or1, x_or2, x_not, x_not1, x_bool, x_bool1, x_andV, x_andV1, x_andV2, x_orV, x_orV1, x_orV2, x_notV, x_notV1, x_ifV, x_ifV1, x_ifV2, x_cE, x_nm, x_nm1, x_nm2, x_rd, x_rd1, x_rd2, x_rd3, x_ev0, x_ev, x_ev1, x_ev2, x_pk, x_pk1, x_pk2, x_pk3, x_vv0, x_vv, x_vv1, x_op, x_op1, x_op2, x_ca, x_ck, x_ci, x_ci0, x_ci1, x_ci2, x_ci3, x_ci4, x_ci5, x_tup, x_tup1, x_lst, x_lst1, x_ch, x_ch1, x_ch2, x_ch3, x_ch4, x_ch5, x_asgT, x_asgT1, x_nx, x_par, x_par1, x_par2, x_par3, x_par31, x_par32, x_par33, x_tn, x_t0, x_tc, x_ts, x_ts0, x_ts1, x_up1, x_up2, x_upO, x_upI, x_app, x_app0, x_app1, x_for, x_for1, x_fl1, x_fl2, x_fl3, x_fl4, x_fl5, x_fl6, x_turn, x_its, x_its1, x_its2, x_its3, x_rg1, x_rg2, x_rg21, x_en, x_en1, x_zp, x_zp1, x_zp2, x_zp3, x_st, x_st0, x_st1, x_st2, x_st3, x_yes, x_lc2, x_rA1, x_rA2, x_rF1, x_rI1, x_rI2, x_wh1, x_wh2, x_wh3, x_wh4, x_wh5, o_add, o_sub, o_neg, o_lt, o_le, o_gt, o_ge, o_eq, o_ne, o_eqB, o_neB, o_int, o_abs, o_max, o_min, o_lenL, o_lenT, o_ix0, o_ix1, o_ixl0, o_ixl1, o_ixl2, o_isi, o_isi2, o_isN, o_notN, o_isB, o_notB, x_A0, x_F0, x_I0, x_A1, x_F1, x_I1, x_A2, x_F2, x_I2, x_A3, x_F3, x_I3, x_A4, x_F4, x_I4, x_A5, x_F5, x_I5, x_A6, x_F6, x_I6, x_A7, x_F7, x_I7, x_A8, x_F8, x_I8, x_wi0, x_wi, x_re0, x_re, x_re1, x_ok0, x_ok, x_ok1, x_ok2, o_not0, x_g0, x_gS, x_s0, x_sS, x_bs, x_bn, x_ms, x_isNnone, x_isNbool, x_isNint, x_isNstr, x_isNlist, x_isNtuple, x_isNdict, x_tyintnone, x_tyintbool, x_tyintint, x_tyintstr, x_tyintlist, x_tyinttuple, x_tyintdict, x_tyboolnone, x_tyboolbool, x_tyboolint, x_tyboolstr, x_tyboollist, x_tybooltuple, x_tybooldict, x_tystrnone, x_tystrbool, x_tystrint, x_tystrstr, x_tystrlist, x_tystrtuple, x_tystrdict, x_tytupnone, x_tytupbool, x_tytupint, x_tytupstr, x_tytuplist, x_tytuptuple, x_tytupdict, x_tylstnone, x_tylstbool, x_tylstint, x_tylststr, x_tylstlist, x_tylsttuple, x_tylstdict, x_tydctnone, x_tydctbool, x_tydctint, x_tydctstr, x_tydctlist, x_tydcttuple, x_tydctdict, x_be0, x_bn0, x_be1, x_bn1, x_be2, x_bn2, x_be3, x_bn3, List.length_cons, List.length_nil, List.map_cons, List.map_nil, List.replicate, List.cons_append, List.nil_append, List.append_nil, startE, pick, List.filterMap_cons, List.filterMap_nil, Bool.or_false, Bool.false_or, Bool.or_true, Bool.true_or, Bool.and_true, Bool.true_and, Bool.and_false, Bool.false_and, Bool.not_true, Bool.not_false, Bool.not_not, decide_true, decide_false, Int.cast_ofNat_Int, Nat.reduceAdd, Nat.zero_add, Int.reduceEq, Int.reduceLT, Int.reduceLE, Int.reduceGT, Int.reduceGE, Int.reduceAdd, Int.reduceSub, Int.reduceMul, Int.reduceNeg, Int.reducePow, Int.reduceToNat]
/-! ## ranges -/
def eI : Option Int → D
  | none => .none
  | some i => .int i
abbrev eS (s : Option Int × Option Int) : D := .tuple [eI s.1, eI s.2]
/-- a range -/
def Rng : Option Int × Option Int → Prop
  | (some a, some b) => a ≤ b
  | _ => True
theorem eI_n : eI none = .none := id rfl
theorem eI_s (i : Int) : eI (some i) = .int i := id rfl
theorem e_is_end (x : Option Int) : sem_is_end [eI x] = some (.bool true) := by
  rw [sem_is_end, g_is_end]
  cases x with
  | none => simp only [eI_n, x_seq, x_seq1, x_seq2, x_seq3, x_seq4, x_seq5, x_asg, x_asg1, x_asgF, x_asgF1, x_exp, x_exp1, x_ret, x_ret1, x_retF, x_retF1, x_retN, x_skip, x_brk, x_cnt, x_if, x_if1, x_if2, x_and, x_and1, x_and2, x_or, x_or1, x_or2, x_not, x_not1, x_bool, x_bool1, x_andV, x_andV1, x_andV2, x_orV, x_orV1, x_orV2, x_notV, x_notV1, x_ifV, x_ifV1, x_ifV2, x_cE, x_nm, x_nm1, x_nm2, x_rd, x_rd1, x_rd2, x_rd3, x_ev0, x_ev, x_ev1, x_ev2, x_pk, x_pk1, x_pk2, x_pk3, x_vv0, x_vv, x_vv1, x_op, x_op1, x_op2, x_ca, x_ck, x_ci, x_ci0, x_ci1, x_ci2, x_ci3, x_ci4, x_ci5, x_tup, x_tup1, x_lst, x_lst1, x_ch, x_ch1, x_ch2, x_ch3, x_ch4, x_ch5, x_asgT, x_asgT1, x_nx, x_par, x_par1, x_par2, x_par3, x_par31, x_par32, x_par33, x_tn, x_t0, x_tc, x_ts, x_ts0, x_ts1, x_up1, x_up2, x_upO, x_upI, x_app, x_app0, x_app1, x_for, x_for1, x_fl1, x_fl2, x_fl3, x_fl4, x_fl5, x_fl6, x_turn, x_its, x_its1, x_its2, x_its3, x_rg1, x_rg2, x_rg21, x_en, x_en1, x_zp, x_zp1, x_zp2, x_zp3, x_st, x_st0, x_st1, x_st2, x_st3, x_yes, x_lc2, x_rA1, x_rA2, x_rF1, x_rI1, x_rI2, x_wh1, x_wh2, x_wh3, x_wh4, x_wh5, o_add, o_sub, o_neg, o_lt, o_le, o_gt, o_ge, o_eq, o_ne, o_eqB, o_neB, o_int, o_abs, o_max, o_min, o_lenL, o_lenT, o_ix0, o_ix1, o_ixl0, o_ixl1, o_ixl2, o_isi, o_isi2, o_isN, o_notN, o_isB, o_notB, x_A0, x_F0, x_I0, x_A1, x_F1, x_I1, x_A2, x_F2, x_I2, x_A3, x_F3, x_I3, x_A4, x_F4, x_I4, x_A5, x_F5, x_I5, x_A6, x_F6, x_I6, x_A7, x_F7, x_I7, x_A8, x_F8, x_I8, x_wi0, x_wi, x_re0, x_re, x_re1, x_ok0, x_ok, x_ok1, x_ok2, o_not0, x_g0, x_gS, x_s0, x_sS, x_bs, x_bn, x_ms, x_isNnone, x_isNbool, x_isNint, x_isNstr, x_isNlist, x_isNtuple, x_isNdict, x_tyintnone, x_tyintbool, x_tyintint, x_tyintstr, x_tyintlist, x_tyinttuple, x_tyintdict, x_tyboolnone, x_tyboolbool, x_tyboolint, x_tyboolstr, x_tyboollist, x_tybooltuple, x_tybooldict, x_tystrnone, x_tystrbool, x_tystrint, x_tystrstr, x_tystrlist, x_tystrtuple, x_tystrdict, x_tytupnone, x_tytupbool, x_tytupint, x_tytupstr, x_tytuplist, x_tytuptuple, x_tytupdict, x_tylstnone, x_tylstbool, x_tylstint, x_tylststr, x_tylstlist, x_tylsttuple, x_tylstdict, x_tydctnone, x_tydctbool, x_tydctint, x_tydctstr, x_tydctlist, x_tydcttuple, x_tydctdict, x_be0, x_bn0, x_be1, x_bn1, x_be2, x_bn2, x_be3, x_bn3, List.length_cons, List.length_nil, List.map_cons, List.map_nil, List.replicate, List.cons_append, List.nil_append, List.append_nil, startE, pick, List.filterMap_cons, List.filterMap_nil, Bool.or_false, Bool.false_or, Bool.or_true, Bool.true_or, Bool.and_true, Bool.true_and, Bool.and_false, Bool.false_and, Bool.not_true, Bool.not_false, Bool.not_not, decide_true, decide_false, Int.cast_ofNat_Int, Nat.reduceAdd, Nat.zero_add, Int.reduceEq, Int.reduceLT, Int.reduceLE, Int.reduceGT, Int.reduceGE, Int.reduceAdd, Int.reduceSub, Int.reduceMul, Int.reduceNeg, Int.reducePow, Int.reduceToNat]
  | some i => simp only [eI_s, e_is_whole, x_seq, x_seq1, x_seq2, x_seq3, x_seq4, x_seq5, x_asg, x_asg1, x_asgF, x_asgF1, x_exp, x_exp1, x_ret, x_ret1, x_retF, x_retF1, x_retN, x_skip, x_brk, x_cnt, x_if, x_if1, x_if2, x_and, x_and1, x_and2, x_or, x_or1, x_or2, x_not, x_not1, x_bool, x_bool1, x_andV, x_andV1, x_andV2, x_orV, x_orV1, x_orV2, x_notV, x_notV1, x_ifV, x_ifV1, x_ifV2, x_cE, x_nm, x_nm1, x_nm2, x_rd, x_rd1, x_rd2, x_rd3, x_ev0, x_ev, x_ev1, x_ev2, x_pk, x_pk1, x_pk2, x_pk3, x_vv0, x_vv, x_vv1, x_op, x_op1, x_op2, x_ca, x_ck, x_ci, x_ci0, x_ci1, x_ci2, x_ci3, x_ci4, x_ci5, x_tup, x_tup1, x_lst, x_lst1, x_ch, x_ch1, x_ch2, x_ch3, x_ch4, x_ch5, x_asgT, x_asgT1, x_nx, x_par, x_par1, x_par2, x_par3, x_par31, x_par32, x_par33, x_tn, x_t0, x_tc, x_ts, x_ts0, x_ts1, x_up1, x_up2, x_upO, x_upI, x_app, x_app0, x_app1, x_for, x_for1, x_fl1, x_fl2, x_fl3, x_fl4, x_fl5, x_fl6, x_turn, x_its, x_its1, x_its2, x_its3, x_rg1, x_rg2, x_rg21, x_en, x_en1, x_zp, x_zp1, x_zp2, x_zp3, x_st, x_st0, x_st1, x_st2, x_st3, x_yes, x_lc2, x_rA1, x_rA2, x_rF1, x_rI1, x_rI2, x_wh1, x_wh2, x_wh3, x_wh4, x_wh5, o_add, o_sub, o_neg, o_lt, o_le, o_gt, o_ge, o_eq, o_ne, o_eqB, o_neB, o_int, o_abs, o_max, o_min, o_lenL, o_lenT, o_ix0, o_ix1, o_ixl0, o_ixl1, o_ixl2, o_isi, o_isi2, o_isN, o_notN, o_isB, o_notB, x_A0, x_F0, x_I0, x_A1, x_F1, x_I1, x_A2, x_F2, x_I2, x_A3, x_F3, x_I3, x_A4, x_F4, x_I4, x_A5, x_F5, x_I5, x_A6, x_F6, x_I6, x_A7, x_F7, x_I7, x_A8, x_F8, x_I8, x_wi0, x_wi, x_re0, x_re, x_re1, x_ok0, x_ok, x_ok1, x_ok2, o_not0, x_g0, x_gS, x_s0, x_sS, x_bs, x_bn, x_ms, x_isNnone, x_isNbool, x_isNint, x_isNstr, x_isNlist, x_isNtuple, x_isNdict, x_tyintnone, x_tyintbool, x_tyintint, x_tyintstr, x_tyintlist, x_tyinttuple, x_tyintdict, x_tyboolnone, x_tyboolbool, x_tyboolint, x_tyboolstr, x_tyboollist, x_tybooltuple, x_tybooldict, x_tystrnone, x_tystrbool, x_tystrint, x_tystrstr, x_tystrlist, x_tystrtuple, x_tystrdict, x_tytupnone, x_tytupbool, x_tytupint, x_tytupstr, x_tytuplist, x_tytuptuple, x_tytupdict, x_tylstnone, x_tylstbool, x_tylstint, x_tylststr, x_tylstlist, x_tylsttuple, x_tylstdict, x_tydctnone, x_tydctbool, x_tydctint, x_tydctstr, x_tydctlist, x_tydcttuple, x_tydctdict, x_be0, x_bn0, x_be1, x_bn1, x_be2, x_bn2, x_be3, x_bn3, List.length_cons, List.length_nil, List.map_cons, List.map_nil, List.replicate, List.cons_append, List.nil_append, List.append_nil, startE, pick, List.filterMap_cons, List.filterMap_nil, Bool.or_false, Bool.false_or, Bool.or_true, Bool.true_or, Bool.and_true, Bool.true_and, Bool.and_false, Bool.false_and, Bool.not_true, Bool.not_false, Bool.not_not, decide_true, decide_false, Int.cast_ofNat_Int, Nat.reduceAdd, Nat.zero_add, Int.reduceEq, Int.reduceLT, Int.reduceLE, Int.reduceGT, Int.reduceGE, Int.reduceAdd, Int.reduceSub, Int.reduceMul, Int.reduceNeg, Int.reducePow, Int.reduceToNat]
theorem e_is_range {s : Option Int × Option Int} (h : Rng s) : sem_is_range [eS s] = some (.bool true) := by
  obtain ⟨a, b⟩ := s
  have h1 := e_is_end a
  have h2 := e_is_end b
  rw [sem_is_range, g_is_range]
  cases a with
  | none => cases b with
    | none => simp only [eI_n] at h1; simp only [h1, eI_n, x_seq, x_seq1, x_seq2, x_seq3, x_seq4, x_seq5, x_asg, x_asg1, x_asgF, x_asgF1, x_exp, x_exp1, x_ret, x_ret1, x_retF, x_retF1, x_retN, x_skip, x_brk, x_cnt, x_if, x_if1, x_if2, x_and, x_and1, x_and2, x_or, x_or1, x_or2, x_not, x_not1, x_bool, x_bool1, x_andV, x_andV1, x_andV2, x_orV, x_orV1, x_orV2, x_notV, x_notV1, x_ifV, x_ifV1, x_ifV2, x_cE, x_nm, x_nm1, x_nm2, x_rd, x_rd1, x_rd2, x_rd3, x_ev0, x_ev, x_ev1, x_ev2, x_pk, x_pk1, x_pk2, x_pk3, x_vv0, x_vv, x_vv1, x_op, x_op1, x_op2, x_ca, x_ck, x_ci, x_ci0, x_ci1, x_ci2, x_ci3, x_ci4, x_ci5, x_tup, x_tup1, x_lst, x_lst1, x_ch, x_ch1, x_ch2, x_ch3, x_ch4, x_ch5, x_asgT, x_asgT1, x_nx, x_par, x_par1, x_par2, x_par3, x_par31, x_par32, x_par33, x_tn, x_t0, x_tc, x_ts, x_ts0, x_ts1, x_up1, x_up2, x_upO, x_upI, x_app, x_app0, x_app1, x_for, x_for1, x_fl1, x_fl2, x_fl3, x_fl4, x_fl5, x_fl6, x_turn, x_its, x_its1, x_its2, x_its3, x_rg1, x_rg2, x_rg21, x_en, x_en1, x_zp, x_zp1, x_zp2, x_zp3, x_st, x_st0, x_st1, x_st2, x_st3, x_yes, x_lc2, x_rA1, x_rA2, x_rF1, x_rI1, x_rI2, x_wh1, x_wh2, x_wh3, x_wh4, x_wh5, o_add, o_sub, o_neg, o_lt, o_le, o_gt, o_ge, o_eq, o_ne, o_eqB, o_neB, o_int, o_abs, o_max, o_min, o_lenL, o_lenT, o_ix0, o_ix1, o_ixl0, o_ixl1, o_ixl2, o_isi, o_isi2, o_isN, o_notN, o_isB, o_notB, x_A0, x_F0, x_I0, x_A1, x_F1, x_I1, x_A2, x_F2, x_I2, x_A3, x_F3, x_I3, x_A4, x_F4, x_I4, x_A5, x_F5, x_I5, x_A6, x_F6, x_I6, x_A7, x_F7, x_I7, x_A8, x_F8, x_I8, x_wi0, x_wi, x_re0, x_re, x_re1, x_ok0, x_ok, x_ok1, x_ok2, o_not0, x_g0, x_gS, x_s0, x_sS, x_bs, x_bn, x_ms, x_isNnone, x_isNbool, x_isNint, x_isNstr, x_isNlist, x_isNtuple, x_isNdict, x_tyintnone, x_tyintbool, x_tyintint, x_tyintstr, x_tyintlist, x_tyinttuple, x_tyintdict, x_tyboolnone, x_tyboolbool, x_tyboolint, x_tyboolstr, x_tyboollist, x_tybooltuple, x_tybooldict, x_tystrnone, x_tystrbool, x_tystrint, x_tystrstr, x_tystrlist, x_tystrtuple, x_tystrdict, x_tytupnone, x_tytupbool, x_tytupint, x_tytupstr, x_tytuplist, x_tytuptuple, x_tytupdict, x_tylstnone, x_tylstbool, x_tylstint, x_tylststr, x_tylstlist, x_tylsttuple, x_tylstdict, x_tydctnone, x_tydctbool, x_tydctint, x_tydctstr, x_tydctlist, x_tydcttuple, x_tydctdict, x_be0, x_bn0, x_be1, x_bn1, x_be2, x_bn2, x_be3, x_bn3, List.length_cons, List.length_nil, List.map_cons, List.map_nil, List.replicate, List.cons_append, List.nil_append, List.append_nil, startE, pick, List.filterMap_cons, List.filterMap_nil, Bool.or_false, Bool.false_or, Bool.or_true, Bool.true_or, Bool.and_true, Bool.true_and, Bool.and_false, Bool.false_and, Bool.not_true, Bool.not_false, Bool.not_not, decide_true, decide_false, Int.cast_ofNat_Int, Nat.reduceAdd, Nat.zero_add, Int.reduceEq, Int.reduceLT, Int.reduceLE, Int.reduceGT, Int.reduceGE, Int.reduceAdd, Int.reduceSub, Int.reduceMul, Int.reduceNeg, Int.reducePow, Int.reduceToNat]
    | some j => simp only [eI_n, eI_s] at h1 h2; simp only [h1, h2, eI_n, eI_s, x_seq, x_seq1, x_seq2, x_seq3, x_seq4, x_seq5, x_asg, x_asg1, x_asgF, x_asgF1, x_exp, x_exp1, x_ret, x_ret1, x_retF, x_retF1, x_retN, x_skip, x_brk, x_cnt, x_if, x_if1, x_if2, x_and, x_and1, x_and2, x_or, x_or1, x_or2, x_not, x_not1, x_bool, x_bool1, x_andV, x_andV1, x_andV2, x_orV, x_orV1, x_orV2, x_notV, x_notV1, x_ifV, x_ifV1, x_ifV2, x_cE, x_nm, x_nm1, x_nm2, x_rd, x_rd1, x_rd2, x_rd3, x_ev0, x_ev, x_ev1, x_ev2, x_pk, x_pk1, x_pk2, x_pk3, x_vv0, x_vv, x_vv1, x_op, x_op1, x_op2, x_ca, x_ck, x_ci, x_ci0, x_ci1, x_ci2, x_ci3, x_ci4, x_ci5, x_tup, x_tup1, x_lst, x_lst1, x_ch, x_ch1, x_ch2, x_ch3, x_ch4, x_ch5, x_asgT, x_asgT1, x_nx, x_par, x_par1, x_par2, x_par3, x_par31, x_par32, x_par33, x_tn, x_t0, x_tc, x_ts, x_ts0, x_ts1, x_up1, x_up2, x_upO, x_upI, x_app, x_app0, x_app1, x_for, x_for1, x_fl1, x_fl2, x_fl3, x_fl4, x_fl5, x_fl6, x_turn, x_its, x_its1, x_its2, x_its3, x_rg1, x_rg2, x_rg21, x_en, x_en1, x_zp, x_zp1, x_zp2, x_zp3, x_st, x_st0, x_st1, x_st2, x_st3, x_yes, x_lc2, x_rA1, x_rA2, x_rF1, x_rI1, x_rI2, x_wh1, x_wh2, x_wh3, x_wh4, x_wh5, o_add, o_sub, o_neg, o_lt, o_le, o_gt, o_ge, o_eq, o_ne, o_eqB, o_neB, o_int, o_abs, o_max, o_min, o_lenL, o_lenT, o_ix0, o_ix1, o_ixl0, o_ixl1, o_ixl2, o_isi, o_isi2, o_isN, o_notN, o_isB, o_notB, x_A0, x_F0, x_I0, x_A1, x_F1, x_I1, x_A2, x_F2, x_I2, x_A3, x_F3, x_I3, x_A4, x_F4, x_I4, x_A5, x_F5, x_I5, x_A6, x_F6, x_I6, x_A7, x_F7, x_I7, x_A8, x_F8, x_I8, x_wi0, x_wi, x_re0, x_re, x_re1, x_ok0, x_ok, x_ok1, x_ok2, o_not0, x_g0, x_gS, x_s0, x_sS, x_bs, x_bn, x_ms, x_isNnone, x_isNbool, x_isNint, x_isNstr, x_isNlist, x_isNtuple, x_isNdict, x_tyintnone, x_tyintbool, x_tyintint, x_tyintstr, x_tyintlist, x_tyinttuple, x_tyintdict, x_tyboolnone, x_tyboolbool, x_tyboolint, x_tyboolstr, x_tyboollist, x_tybooltuple, x_tybooldict, x_tystrnone, x_tystrbool, x_tystrint, x_tystrstr, x_tystrlist, x_tystrtuple, x_tystrdict, x_tytupnone, x_tytupbool, x_tytupint, x_tytupstr, x_tytuplist, x_tytuptuple, x_tytupdict, x_tylstnone, x_tylstbool, x_tylstint, x_tylststr, x_tylstlist, x_tylsttuple, x_tylstdict, x_tydctnone, x_tydctbool, x_tydctint, x_tydctstr, x_tydctlist, x_tydcttuple, x_tydctdict, x_be0, x_bn0, x_be1, x_bn1, x_be2, x_bn2, x_be3, x_bn3, List.length_cons, List.length_nil, List.map_cons, List.map_nil, List.replicate, List.cons_append, List.nil_append, List.append_nil, startE, pick, List.filterMap_cons, List.filterMap_nil, Bool.or_false, Bool.false_or, Bool.or_true, Bool.true_or, Bool.and_true, Bool.true_and, Bool.and_false, Bool.false_and, Bool.not_true, Bool.not_false, Bool.not_not, decide_true, decide_false, Int.cast_ofNat_Int, Nat.reduceAdd, Nat.zero_add, Int.reduceEq, Int.reduceLT, Int.reduceLE, Int.reduceGT, Int.reduceGE, Int.reduceAdd, Int.reduceSub, Int.reduceMul, Int.reduceNeg, Int.reducePow, Int.reduceToNat]
  | some i => cases b with
    | none => simp only [eI_n, eI_s] at h1 h2; simp only [h1, h2, eI_n, eI_s, x_seq, x_seq1, x_seq2, x_seq3, x_seq4, x_seq5, x_asg, x_asg1, x_asgF, x_asgF1, x_exp, x_exp1, x_ret, x_ret1, x_retF, x_retF1, x_retN, x_skip, x_brk, x_cnt, x_if, x_if1, x_if2, x_and, x_and1, x_and2, x_or, x_or1, x_or2, x_not, x_not1, x_bool, x_bool1, x_andV, x_andV1, x_andV2, x_orV, x_orV1, x_orV2, x_notV, x_notV1, x_ifV, x_ifV1, x_ifV2, x_cE, x_nm, x_nm1, x_nm2, x_rd, x_rd1, x_rd2, x_rd3, x_ev0, x_ev, x_ev1, x_ev2, x_pk, x_pk1, x_pk2, x_pk3, x_vv0, x_vv, x_vv1, x_op, x_op1, x_op2, x_ca, x_ck, x_ci, x_ci0, x_ci1, x_ci2, x_ci3, x_ci4, x_ci5, x_tup, x_tup1, x_lst, x_lst1, x_ch, x_ch1, x_ch2, x_ch3, x_ch4, x_ch5, x_asgT, x_asgT1, x_nx, x_par, x_par1, x_par2, x_par3, x_par31, x_par32, x_par33, x_tn, x_t0, x_tc, x_ts, x_ts0, x_ts1, x_up1, x_up2, x_upO, x_upI, x_app, x_app0, x_app1, x_for, x_for1, x_fl1, x_fl2, x_fl3, x_fl4, x_fl5, x_fl6, x_turn, x_its, x_its1, x_its2, x_its3, x_rg1, x_rg2, x_rg21, x_en, x_en1, x_zp, x_zp1, x_zp2, x_zp3, x_st, x_st0, x_st1, x_st2, x_st3, x_yes, x_lc2, x_rA1, x_rA2, x_rF1, x_rI1, x_rI2, x_wh1, x_wh2, x_wh3, x_wh4, x_wh5, o_add, o_sub, o_neg, o_lt, o_le, o_gt, o_ge, o_eq, o_ne, o_eqB, o_neB, o_int, o_abs, o_max, o_min, o_lenL, o_lenT, o_ix0, o_ix1, o_ixl0, o_ixl1, o_ixl2, o_isi, o_isi2, o_isN, o_notN, o_isB, o_notB, x_A0, x_F0, x_I0, x_A1, x_F1, x_I1, x_A2, x_F2, x_I2, x_A3, x_F3, x_I3, x_A4, x_F4, x_I4, x_A5, x_F5, x_I5, x_A6, x_F6, x_I6, x_A7, x_F7, x_I7, x_A8, x_F8, x_I8, x_wi0, x_wi, x_re0, x_re, x_re1, x_ok0, x_ok, x_ok1, x_ok2, o_not0, x_g0, x_gS, x_s0, x_sS, x_bs, x_bn, x_ms, x_isNnone, x_isNbool, x_isNint, x_isNstr, x_isNlist, x_isNtuple, x_isNdict, x_tyintnone, x_tyintbool, x_tyintint, x_tyintstr, x_tyintlist, x_tyinttuple, x_tyintdict, x_tyboolnone, x_tyboolbool, x_tyboolint, x_tyboolstr, x_tyboollist, x_tybooltuple, x_tybooldict, x_tystrnone, x_tystrbool, x_tystrint, x_tystrstr, x_tystrlist, x_tystrtuple, x_tystrdict, x_tytupnone, x_tytupbool, x_tytupint, x_tytupstr, x_tytuplist, x_tytuptuple, x_tytupdict, x_tylstnone, x_tylstbool, x_tylstint, x_tylststr, x_tylstlist, x_tylsttuple, x_tylstdict, x_tydctnone, x_tydctbool, x_tydctint, x_tydctstr, x_tydctlist, x_tydcttuple, x_tydctdict, x_be0, x_bn0, x_be1, x_bn1, x_be2, x_bn2, x_be3, x_bn3, List.length_cons, List.length_nil, List.map_cons, List.map_nil, List.replicate, List.cons_append, List.nil_append, List.append_nil, startE, pick, List.filterMap_cons, List.filterMap_nil, Bool.or_false, Bool.false_or, Bool.or_true, Bool.true_or, Bool.and_true, Bool.true_and, Bool.and_false, Bool.false_and, Bool.not_true, Bool.not_false, Bool.not_not, decide_true, decide_false, Int.cast_ofNat_Int, Nat.reduceAdd, Nat.zero_add, Int.reduceEq, Int.reduceLT, Int.reduceLE, Int.reduceGT, Int.reduceGE, Int.reduceAdd, Int.reduceSub, Int.reduceMul, Int.reduceNeg, Int.reducePow, Int.reduceToNat]
    | some j =>
      have : i ≤ j := h
      simp only [eI_n, eI_s] at h1 h2
      simp only [h1, h2, eI_n, eI_s, this, x_seq, x_seq1, x_seq2, x_seq3, x_seq4, x_seq5, x_asg, x_asg1, x_asgF, x_asgF1, x_exp, x_exp1, x_ret, x_ret1, x_retF, x_retF1, x_retN, x_skip, x_brk, x_cnt, x_if, x_if1, x_if2, x_and, x_and1, x_and2, x_or, x_or1, x_or2, x_not, x_not1, x_bool, x_bool1, x_andV, x_andV1, x_andV2, x_orV, x_orV1, x_orV2, x_notV, x_notV1, x_ifV, x_ifV1, x_ifV2, x_cE, x_nm, x_nm1, x_nm2, x_rd, x_rd1, x_rd2, x_rd3, x_ev0, x_ev, x_ev1, x_ev2, x_pk, x_pk1, x_pk2, x_pk3, x_vv0, x_vv, x_vv1, x_op, x_op1, x_op2, x_ca, x_ck, x_ci, x_ci0, x_ci1, x_ci2, x_ci3, x_ci4, x_ci5, x_tup, x_tup1, x_lst, x_lst1, x_ch, x_ch1, x_ch2, x_ch3, x_ch4, x_ch5, x_asgT, x_asgT1, x_nx, x_par, x_par1, x_par2, x_par3, x_par31, x_par32, x_par33, x_tn, x_t0, x_tc, x_ts, x_ts0, x_ts1, x_up1, x_up2, x_upO, x_upI, x_app, x_app0, x_app1, x_for, x_for1, x_fl1, x_fl2, x_fl3, x_fl4, x_fl5, x_fl6, x_turn, x_its, x_its1, x_its2, x_its3, x_rg1, x_rg2, x_rg21, x_en, x_en1, x_zp, x_zp1, x_zp2, x_zp3, x_st, x_st0, x_st1, x_st2, x_st3, x_yes, x_lc2, x_rA1, x_rA2, x_rF1, x_rI1, x_rI2, x_wh1, x_wh2, x_wh3, x_wh4, x_wh5, o_add, o_sub, o_neg, o_lt, o_le, o_gt, o_ge, o_eq, o_ne, o_eqB, o_neB, o_int, o_abs, o_max, o_min, o_lenL, o_lenT, o_ix0, o_ix1, o_ixl0, o_ixl1, o_ixl2, o_isi, o_isi2, o_isN, o_notN, o_isB, o_notB, x_A0, x_F0, x_I0, x_A1, x_F1, x_I1, x_A2, x_F2, x_I2, x_A3, x_F3, x_I3, x_A4, x_F4, x_I4, x_A5, x_F5, x_I5, x_A6, x_F6, x_I6, x_A7, x_F7, x_I7, x_A8, x_F8, x_I8, x_wi0, x_wi, x_re0, x_re, x_re1, x_ok0, x_ok, x_ok1, x_ok2, o_not0, x_g0, x_gS, x_s0, x_sS, x_bs, x_bn, x_ms, x_isNnone, x_isNbool, x_isNint, x_isNstr, x_isNlist, x_isNtuple, x_isNdict, x_tyintnone, x_tyintbool, x_tyintint, x_tyintstr, x_tyintlist, x_tyinttuple, x_tyintdict, x_tyboolnone, x_tyboolbool, x_tyboolint, x_tyboolstr, x_tyboollist, x_tybooltuple, x_tybooldict, x_tystrnone, x_tystrbool, x_tystrint, x_tystrstr, x_tystrlist, x_tystrtuple, x_tystrdict, x_tytupnone, x_tytupbool, x_tytupint, x_tytupstr, x_tytuplist, x_tytuptuple, x_tytupdict, x_tylstnone, x_tylstbool, x_tylstint, x_tylststr, x_tylstlist, x_tylsttuple, x_tylstdict, x_tydctnone, x_tydctbool, x_tydctint, x_tydctstr, x_tydctlist, x_tydcttuple, x_tydctdict, x_be0, x_bn0, x_be1, x_bn1, x_be2, x_bn2, x_be3, x_bn3, List.length_cons, List.length_nil, List.map_cons, List.map_nil, List.replicate, List.cons_append, List.nil_append, List.append_nil, startE, pick, List.filterMap_cons, List.filterMap_nil, Bool.or_false, Bool.false_or, Bool.or_true, Bool.true_or, Bool.and_true, Bool.true_and, Bool.and_false, Bool.false_and, Bool.not_true, Bool.not_false, Bool.not_not, decide_true, decide_false, Int.cast_ofNat_Int, Nat.reduceAdd, Nat.zero_add, Int.reduceEq, Int.reduceLT, Int.reduceLE, Int.reduceGT, Int.reduceGE, Int.reduceAdd, Int.reduceSub, Int.reduceMul, Int.reduceNeg, Int.reducePow, Int.reduceToNat]
def spanQ : Option Int × Option Int → Int × Int
  | (some a, some b) => if a = b then (a, 0) else (0, 1)
  | _ => (0, 1)
theorem e_span (s : Option Int × Option Int) : sem_rest_of_span [eS s] = some (eR (spanQ s)) := by
  obtain ⟨a, b⟩ := s
  rw [sem_rest_of_span, g_rest_of_span]
  cases a with
  | none => cases b <;> simp only [spanQ, eI_n, eI_s, x_seq, x_seq1, x_seq2, x_seq3, x_seq4, x_seq5, x_asg, x_asg1, x_asgF, x_asgF1, x_exp, x_exp1, x_ret, x_ret1, x_retF, x_retF1, x_retN, x_skip, x_brk, x_cnt, x_if, x_if1, x_if2, x_and, x_and1, x_and2, x_or, x_or1, x_or2, x_not, x_not1, x_bool, x_bool1, x_andV, x_andV1, x_andV2, x_orV, x_orV1, x_orV2, x_notV, x_notV1, x_ifV, x_ifV1, x_ifV2, x_cE, x_nm, x_nm1, x_nm2, x_rd, x_rd1, x_rd2, x_rd3, x_ev0, x_ev, x_ev1, x_ev2, x_pk, x_pk1, x_pk2, x_pk3, x_vv0, x_vv, x_vv1, x_op, x_op1, x_op2, x_ca, x_ck, x_ci, x_ci0, x_ci1, x_ci2, x_ci3, x_ci4, x_ci5, x_tup, x_tup1, x_lst, x_lst1, x_ch, x_ch1, x_ch2, x_ch3, x_ch4, x_ch5, x_asgT, x_asgT1, x_nx, x_par, x_par1, x_par2, x_par3, x_par31, x_par32, x_par33, x_tn, x_t0, x_tc, x_ts, x_ts0, x_ts1, x_up1, x_up2, x_upO, x_upI, x_app, x_app0, x_app1, x_for, x_for1, x_fl1, x_fl2, x_fl3, x_fl4, x_fl5, x_fl6, x_turn, x_its, x_its1, x_its2, x_its3, x_rg1, x_rg2, x_rg21, x_en, x_en1, x_zp, x_zp1, x_zp2, x_zp3, x_st, x_st0, x_st1, x_st2, x_st3, x_yes, x_lc2, x_rA1, x_rA2, x_rF1, x_rI1, x_rI2, x_wh1, x_wh2, x_wh3, x_wh4, x_wh5, o_add, o_sub, o_neg, o_lt, o_le, o_gt, o_ge, o_eq, o_ne, o_eqB, o_neB, o_int, o_abs, o_max, o_min, o_lenL, o_lenT, o_ix0, o_ix1, o_ixl0, o_ixl1, o_ixl2, o_isi, o_isi2, o_isN, o_notN, o_isB, o_notB, x_A0, x_F0, x_I0, x_A1, x_F1, x_I1, x_A2, x_F2, x_I2, x_A3, x_F3, x_I3, x_A4, x_F4, x_I4, x_A5, x_F5, x_I5, x_A6, x_F6, x_I6, x_A7, x_F7, x_I7, x_A8, x_F8, x_I8, x_wi0, x_wi, x_re0, x_re, x_re1, x_ok0, x_ok, x_ok1, x_ok2, o_not0, x_g0, x_gS, x_s0, x_sS, x_bs, x_bn, x_ms, x_isNnone, x_isNbool, x_isNint, x_isNstr, x_isNlist, x_isNtuple, x_isNdict, x_tyintnone, x_tyintbool, x_tyintint, x_tyintstr, x_tyintlist, x_tyinttuple, x_tyintdict, x_tyboolnone, x_tyboolbool, x_tyboolint, x_tyboolstr, x_tyboollist, x_tybooltuple, x_tybooldict, x_tystrnone, x_tystrbool, x_tystrint, x_tystrstr, x_tystrlist, x_tystrtuple, x_tystrdict, x_tytupnone, x_tytupbool, x_tytupint, x_tytupstr, x_tytuplist, x_tytuptuple, x_tytupdict, x_tylstnone, x_tylstbool, x_tylstint, x_tylststr, x_tylstlist, x_tylsttuple, x_tylstdict, x_tydctnone, x_tydctbool, x_tydctint, x_tydctstr, x_tydctlist, x_tydcttuple, x_tydctdict, x_be0, x_bn0, x_be1, x_bn1, x_be2, x_bn2, x_be3, x_bn3, List.length_cons, List.length_nil, List.map_cons, List.map_nil, List.replicate, List.cons_append, List.nil_append, List.append_nil, startE, pick, List.filterMap_cons, List.filterMap_nil, Bool.or_false, Bool.false_or, Bool.or_true, Bool.true_or, Bool.and_true, Bool.true_and, Bool.and_false, Bool.false_and, Bool.not_true, Bool.not_false, Bool.not_not, decide_true, decide_false, Int.cast_ofNat_Int, Nat.reduceAdd, Nat.zero_add, Int.reduceEq, Int.reduceLT, Int.reduceLE, Int.reduceGT, Int.reduceGE, Int.reduceAdd, Int.reduceSub, Int.reduceMul, Int.reduceNeg, Int.reducePow, Int.reduceToNat]
  | some i => cases b with
    | none =>
      have z : eqD [.int i, .none] = some (.bool false) := id rfl
      simp only [spanQ, eI_n, eI_s, z, x_seq, x_seq1, x_seq2, x_seq3, x_seq4, x_seq5, x_asg, x_asg1, x_asgF, x_asgF1, x_exp, x_exp1, x_ret, x_ret1, x_retF, x_retF1, x_retN, x_skip, x_brk, x_cnt, x_if, x_if1, x_if2, x_and, x_and1, x_and2, x_or, x_or1, x_or2, x_not, x_not1, x_bool, x_bool1, x_andV, x_andV1, x_andV2, x_orV, x_orV1, x_orV2, x_notV, x_notV1, x_ifV, x_ifV1, x_ifV2, x_cE, x_nm, x_nm1, x_nm2, x_rd, x_rd1, x_rd2, x_rd3, x_ev0, x_ev, x_ev1, x_ev2, x_pk, x_pk1, x_pk2, x_pk3, x_vv0, x_vv, x_vv1, x_op, x_op1, x_op2, x_ca, x_ck, x_ci, x_ci0, x_ci1, x_ci2, x_ci3, x_ci4, x_ci5, x_tup, x_tup1, x_lst, x_lst1, x_ch, x_ch1, x_ch2, x_ch3, x_ch4, x_ch5, x_asgT, x_asgT1, x_nx, x_par, x_par1, x_par2, x_par3, x_par31, x_par32, x_par33, x_tn, x_t0, x_tc, x_ts, x_ts0, x_ts1, x_up1, x_up2, x_upO, x_upI, x_app, x_app0, x_app1, x_for, x_for1, x_fl1, x_fl2, x_fl3, x_fl4, x_fl5, x_fl6, x_turn, x_its, x_its1, x_its2, x_its3, x_rg1, x_rg2, x_rg21, x_en, x_en1, x_zp, x_zp1, x_zp2, x_zp3, x_st, x_st0, x_st1, x_st2, x_st3, x_yes, x_lc2, x_rA1, x_rA2, x_rF1, x_rI1, x_rI2, x_wh1, x_wh2, x_wh3, x_wh4, x_wh5, o_add, o_sub, o_neg, o_lt, o_le, o_gt, o_ge, o_eq, o_ne, o_eqB, o_neB, o_int, o_abs, o_max, o_min, o_lenL, o_lenT, o_ix0, o_ix1, o_ixl0, o_ixl1, o_ixl2, o_isi, o_isi2, o_isN, o_notN, o_isB, o_notB, x_A0, x_F0, x_I0, x_A1, x_F1, x_I1, x_A2, x_F2, x_I2, x_A3, x_F3, x_I3, x_A4, x_F4, x_I4, x_A5, x_F5, x_I5, x_A6, x_F6, x_I6, x_A7, x_F7, x_I7, x_A8, x_F8, x_I8, x_wi0, x_wi, x_re0, x_re, x_re1, x_ok0, x_ok, x_ok1, x_ok2, o_not0, x_g0, x_gS, x_s0, x_sS, x_bs, x_bn, x_ms, x_isNnone, x_isNbool, x_isNint, x_isNstr, x_isNlist, x_isNtuple, x_isNdict, x_tyintnone, x_tyintbool, x_tyintint, x_tyintstr, x_tyintlist, x_tyinttuple, x_tyintdict, x_tyboolnone, x_tyboolbool, x_tyboolint, x_tyboolstr, x_tyboollist, x_tybooltuple, x_tybooldict, x_tystrnone, x_tystrbool, x_tystrint, x_tystrstr, x_tystrlist, x_tystrtuple, x_tystrdict, x_tytupnone, x_tytupbool, x_tytupint, x_tytupstr, x_tytuplist, x_tytuptuple, x_tytupdict, x_tylstnone, x_tylstbool, x_tylstint, x_tylststr, x_tylstlist, x_tylsttuple, x_tylstdict, x_tydctnone, x_tydctbool, x_tydctint, x_tydctstr, x_tydctlist, x_tydcttuple, x_tydctdict, x_be0, x_bn0, x_be1, x_bn1, x_be2, x_bn2, x_be3, x_bn3, List.length_cons, List.length_nil, List.map_cons, List.map_nil, List.replicate, List.cons_append, List.nil_append, List.append_nil, startE, pick, List.filterMap_cons, List.filterMap_nil, Bool.or_false, Bool.false_or, Bool.or_true, Bool.true_or, Bool.and_true, Bool.true_and, Bool.and_false, Bool.false_and, Bool.not_true, Bool.not_false, Bool.not_not, decide_true, decide_false, Int.cast_ofNat_Int, Nat.reduceAdd, Nat.zero_add, Int.reduceEq, Int.reduceLT, Int.reduceLE, Int.reduceGT, Int.reduceGE, Int.reduceAdd, Int.reduceSub, Int.reduceMul, Int.reduceNeg, Int.reducePow, Int.reduceToNat]
    | some j =>
      by_cases e : i = j
      · subst e; simp only [spanQ, eI_n, eI_s, if_true, x_seq, x_seq1, x_seq2, x_seq3, x_seq4, x_seq5, x_asg, x_asg1, x_asgF, x_asgF1, x_exp, x_exp1, x_ret, x_ret1, x_retF, x_retF1, x_retN, x_skip, x_brk, x_cnt, x_if, x_if1, x_if2, x_and, x_and1, x_and2, x_or, x_or1, x_or2, x_not, x_not1, x_bool, x_bool1, x_andV, x_andV1, x_andV2, x_orV, x_orV1, x_orV2, x_notV, x_notV1, x_ifV, x_ifV1, x_ifV2, x_cE, x_nm, x_nm1, x_nm2, x_rd, x_rd1, x_rd2, x_rd3, x_ev0, x_ev, x_ev1, x_ev2, x_pk, x_pk1, x_pk2, x_pk3, x_vv0, x_vv, x_vv1, x_op, x_op1, x_op2, x_ca, x_ck, x_ci, x_ci0, x_ci1, x_ci2, x_ci3, x_ci4, x_ci5, x_tup, x_tup1, x_lst, x_lst1, x_ch, x_ch1, x_ch2, x_ch3, x_ch4, x_ch5, x_asgT, x_asgT1, x_nx, x_par, x_par1, x_par2, x_par3, x_par31, x_par32, x_par33, x_tn, x_t0, x_tc, x_ts, x_ts0, x_ts1, x_up1, x_up2, x_upO, x_upI, x_app, x_app0, x_app1, x_for, x_for1, x_fl1, x_fl2, x_fl3, x_fl4, x_fl5, x_fl6, x_turn, x_its, x_its1, x_its2, x_its3, x_rg1, x_rg2, x_rg21, x_en, x_en1, x_zp, x_zp1, x_zp2, x_zp3, x_st, x_st0, x_st1, x_st2, x_st3, x_yes, x_lc2, x_rA1, x_rA2, x_rF1, x_rI1, x_rI2, x_wh1, x_wh2, x_wh3, x_wh4, x_wh5, o_add, o_sub, o_neg, o_lt, o_le, o_gt, o_ge, o_eq, o_ne, o_eqB, o_neB, o_int, o_abs, o_max, o_min, o_lenL, o_lenT, o_ix0, o_ix1, o_ixl0, o_ixl1, o_ixl2, o_isi, o_isi2, o_isN, o_notN, o_isB, o_notB, x_A0, x_F0, x_I0, x_A1, x_F1, x_I1, x_A2, x_F2, x_I2, x_A3, x_F3, x_I3, x_A4, x_F4, x_I4, x_A5, x_F5, x_I5, x_A6, x_F6, x_I6, x_A7, x_F7, x_I7, x_A8, x_F8, x_I8, x_wi0, x_wi, x_re0, x_re, x_re1, x_ok0, x_ok, x_ok1, x_ok2, o_not0, x_g0, x_gS, x_s0, x_sS, x_bs, x_bn, x_ms, x_isNnone, x_isNbool, x_isNint, x_isNstr, x_isNlist, x_isNtuple, x_isNdict, x_tyintnone, x_tyintbool, x_tyintint, x_tyintstr, x_tyintlist, x_tyinttuple, x_tyintdict, x_tyboolnone, x_tyboolbool, x_tyboolint, x_tyboolstr, x_tyboollist, x_tybooltuple, x_tybooldict, x_tystrnone, x_tystrbool, x_tystrint, x_tystrstr, x_tystrlist, x_tystrtuple, x_tystrdict, x_tytupnone, x_tytupbool, x_tytupint, x_tytupstr, x_tytuplist, x_tytuptuple, x_tytupdict, x_tylstnone, x_tylstbool, x_tylstint, x_tylststr, x_tylstlist, x_tylsttuple, x_tylstdict, x_tydctnone, x_tydctbool, x_tydctint, x_tydctstr, x_tydctlist, x_tydcttuple, x_tydctdict, x_be0, x_bn0, x_be1, x_bn1, x_be2, x_bn2, x_be3, x_bn3, List.length_cons, List.length_nil, List.map_cons, List.map_nil, List.replicate, List.cons_append, List.nil_append, List.append_nil, startE, pick, List.filterMap_cons, List.filterMap_nil, Bool.or_false, Bool.false_or, Bool.or_true, Bool.true_or, Bool.and_true, Bool.true_and, Bool.and_false, Bool.false_and, Bool.not_true, Bool.not_false, Bool.not_not, decide_true, decide_false, Int.cast_ofNat_Int, Nat.reduceAdd, Nat.zero_add, Int.reduceEq, Int.reduceLT, Int.reduceLE, Int.reduceGT, Int.reduceGE, Int.reduceAdd, Int.reduceSub, Int.reduceMul, Int.reduceNeg, Int.reducePow, Int.reduceToNat]
      · simp only [spanQ, eI_n, eI_s, e, if_false, x_seq, x_seq1, x_seq2, x_seq3, x_seq4, x_seq5, x_asg, x_asg1, x_asgF, x_asgF1, x_exp, x_exp1, x_ret, x_ret1, x_retF, x_retF1, x_retN, x_skip, x_brk, x_cnt, x_if, x_if1, x_if2, x_and, x_and1, x_and2, x_or, x_or1, x_or2, x_not, x_not1, x_bool, x_bool1, x_andV, x_andV1, x_andV2, x_orV, x_orV1, x_orV2, x_notV, x_notV1, x_ifV, x_ifV1, x_ifV2, x_cE, x_nm, x_nm1, x_nm2, x_rd, x_rd1, x_rd2, x_rd3, x_ev0, x_ev, x_ev1, x_ev2, x_pk, x_pk1, x_pk2, x_pk3, x_vv0, x_vv, x_vv1, x_op, x_op1, x_op2, x_ca, x_ck, x_ci, x_ci0, x_ci1, x_ci2, x_ci3, x_ci4, x_ci5, x_tup, x_tup1, x_lst, x_lst1, x_ch, x_ch1, x_ch2, x_ch3, x_ch4, x_ch5, x_asgT, x_asgT1, x_nx, x_par, x_par1, x_par2, x_par3, x_par31, x_par32, x_par33, x_tn, x_t0, x_tc, x_ts, x_ts0, x_ts1, x_up1, x_up2, x_upO, x_upI, x_app, x_app0, x_app1, x_for, x_for1, x_fl1, x_fl2, x_fl3, x_fl4, x_fl5, x_fl6, x_turn, x_its, x_its1, x_its2, x_its3, x_rg1, x_rg2, x_rg21, x_en, x_en1, x_zp, x_zp1, x_zp2, x_zp3, x_st, x_st0, x_st1, x_st2, x_st3, x_yes, x_lc2, x_rA1, x_rA2, x_rF1, x_rI1, x_rI2, x_wh1, x_wh2, x_wh3, x_wh4, x_wh5, o_add, o_sub, o_neg, o_lt, o_le, o_gt, o_ge, o_eq, o_ne, o_eqB, o_neB, o_int, o_abs, o_max, o_min, o_lenL, o_lenT, o_ix0, o_ix1, o_ixl0, o_ixl1, o_ixl2, o_isi, o_isi2, o_isN, o_notN, o_isB, o_notB, x_A0, x_F0, x_I0, x_A1, x_F1, x_I1, x_A2, x_F2, x_I2, x_A3, x_F3, x_I3, x_A4, x_F4, x_I4, x_A5, x_F5, x_I5, x_A6, x_F6, x_I6, x_A7, x_F7, x_I7, x_A8, x_F8, x_I8, x_wi0, x_wi, x_re0, x_re, x_re1, x_ok0, x_ok, x_ok1, x_ok2, o_not0, x_g0, x_gS, x_s0, x_sS, x_bs, x_bn, x_ms, x_isNnone, x_isNbool, x_isNint, x_isNstr, x_isNlist, x_isNtuple, x_isNdict, x_tyintnone, x_tyintbool, x_tyintint, x_tyintstr, x_tyintlist, x_tyinttuple, x_tyintdict, x_tyboolnone, x_tyboolbool, x_tyboolint, x_tyboolstr, x_tyboollist, x_tybooltuple, x_tybooldict, x_tystrnone, x_tystrbool, x_tystrint, x_tystrstr, x_tystrlist, x_tystrtuple, x_tystrdict, x_tytupnone, x_tytupbool, x_tytupint, x_tytupstr, x_tytuplist, x_tytuptuple, x_tytupdict, x_tylstnone, x_tylstbool, x_tylstint, x_tylststr, x_tylstlist, x_tylsttuple, x_tylstdict, x_tydctnone, x_tydctbool, x_tydctint, x_tydctstr, x_tydctlist, x_tydcttuple, x_tydctdict, x_be0, x_bn0, x_be1, x_bn1, x_be2, x_bn2, x_be3, x_bn3, List.length_cons, List.length_nil, List.map_cons, List.map_nil, List.replicate, List.cons_append, List.nil_append, List.append_nil, startE, pick, List.filterMap_cons, List.filterMap_nil, Bool.or_false, Bool.false_or, Bool.or_true, Bool.true_or, Bool.and_true, Bool.true_and, Bool.and_false, Bool.false_and, Bool.not_true, Bool.not_false, Bool.not_not, decide_true, decide_false, Int.cast_ofNat_Int, Nat.reduceAdd, Nat.zero_add, Int.reduceEq, Int.reduceLT, Int.reduceLE, Int.reduceGT, Int.reduceGE, Int.reduceAdd, Int.reduceSub, Int.reduceMul, Int.reduceNeg, Int.reducePow, Int.reduceToNat]
theorem e_lspan (s : Option Int × Option Int) : sem__law_of_span [eS s] = some (eR (spanQ s)) := by
  have := e_span s
  rw [sem_rest_of_span, g_rest_of_span] at this
  rw [sem__law_of_span, g__law_of_span]
  exact this
theorem e_of_range {s : Option Int × Option Int} (h : Rng s) : sem_rest_of_range [eS s] = some (eR (spanQ s)) := by
  rw [sem_rest_of_range, g_rest_of_range]
  simp only [e_is_range h, e_span s, x_seq, x_seq1, x_seq2, x_seq3, x_seq4, x_seq5, x_asg, x_asg1, x_asgF, x_asgF1, x_exp, x_exp1, x_ret, x_ret1, x_retF, x_retF1, x_retN, x_skip, x_brk, x_cnt, x_if, x_if1, x_if2, x_and, x_and1, x_and2, x_or, x_or1, x_or2, x_not, x_not1, x_bool, x_bool1, x_andV, x_andV1, x_andV2, x_orV, x_orV1, x_orV2, x_notV, x_notV1, x_ifV, x_ifV1, x_ifV2, x_cE, x_nm, x_nm1, x_nm2, x_rd, x_rd1, x_rd2, x_rd3, x_ev0, x_ev, x_ev1, x_ev2, x_pk, x_pk1, x_pk2, x_pk3, x_vv0, x_vv, x_vv1, x_op, x_op1, x_op2, x_ca, x_ck, x_ci, x_ci0, x_ci1, x_ci2, x_ci3, x_ci4, x_ci5, x_tup, x_tup1, x_lst, x_lst1, x_ch, x_ch1, x_ch2, x_ch3, x_ch4, x_ch5, x_asgT, x_asgT1, x_nx, x_par, x_par1, x_par2, x_par3, x_par31, x_par32, x_par33, x_tn, x_t0, x_tc, x_ts, x_ts0, x_ts1, x_up1, x_up2, x_upO, x_upI, x_app, x_app0, x_app1, x_for, x_for1, x_fl1, x_fl2, x_fl3, x_fl4, x_fl5, x_fl6, x_turn, x_its, x_its1, x_its2, x_its3, x_rg1, x_rg2, x_rg21, x_en, x_en1, x_zp, x_zp1, x_zp2, x_zp3, x_st, x_st0, x_st1, x_st2, x_st3, x_yes, x_lc2, x_rA1, x_rA2, x_rF1, x_rI1, x_rI2, x_wh1, x_wh2, x_wh3, x_wh4, x_wh5, o_add, o_sub, o_neg, o_lt, o_le, o_gt, o_ge, o_eq, o_ne, o_eqB, o_neB, o_int, o_abs, o_max, o_min, o_lenL, o_lenT, o_ix0, o_ix1, o_ixl0, o_ixl1, o_ixl2, o_isi, o_isi2, o_isN, o_notN, o_isB, o_notB, x_A0, x_F0, x_I0, x_A1, x_F1, x_I1, x_A2, x_F2, x_I2, x_A3, x_F3, x_I3, x_A4, x_F4, x_I4, x_A5, x_F5, x_I5, x_A6, x_F6, x_I6, x_A7, x_F7, x_I7, x_A8, x_F8, x_I8, x_wi0, x_wi, x_re0, x_re, x_re1, x_ok0, x_ok, x_ok1, x_ok2, o_not0, x_g0, x_gS, x_s0, x_sS, x_bs, x_bn, x_ms, x_isNnone, x_isNbool, x_isNint, x_isNstr, x_isNlist, x_isNtuple, x_isNdict, x_tyintnone, x_tyintbool, x_tyintint, x_tyintstr, x_tyintlist, x_tyinttuple, x_tyintdict, x_tyboolnone, x_tyboolbool, x_tyboolint, x_tyboolstr, x_tyboollist, x_tybooltuple, x_tybooldict, x_tystrnone, x_tystrbool, x_tystrint, x_tystrstr, x_tystrlist, x_tystrtuple, x_tystrdict, x_tytupnone, x_tytupbool, x_tytupint, x_tytupstr, x_tytuplist, x_tytuptuple, x_tytupdict, x_tylstnone, x_tylstbool, x_tylstint, x_tylststr, x_tylstlist, x_tylsttuple, x_tylstdict, x_tydctnone, x_tydctbool, x_tydctint, x_tydctstr, x_tydctlist, x_tydcttuple, x_tydctdict, x_be0, x_bn0, x_be1, x_bn1, x_be2, x_bn2, x_be3, x_bn3, List.length_cons, List.length_nil, List.map_cons, List.map_nil, List.replicate, List.cons_append, List.nil_append, List.append_nil, startE, pick, List.filterMap_cons, List.filterMap_nil, Bool.or_false, Bool.false_or, Bool.or_true, Bool.true_or, Bool.and_true, Bool.true_and, Bool.and_false, Bool.false_and, Bool.not_true, Bool.not_false, Bool.not_not, decide_true, decide_false, Int.cast_ofNat_Int, Nat.reduceAdd, Nat.zero_add, Int.reduceEq, Int.reduceLT, Int.reduceLE, Int.reduceGT, Int.reduceGE, Int.reduceAdd, Int.reduceSub, Int.reduceMul, Int.reduceNeg, Int.reducePow, Int.reduceToNat]
/-- the range drawn tight -/
def tightQ (s : Option Int × Option Int) (r : Int × Int) : Option (Option Int × Option Int) :=
  if r.2 = 0 then (if (match s.1 with | none => true | some a => decide (a ≤ r.1)) && (match s.2 with | none => true | some b => decide (r.1 ≤ b)) then some (some r.1, some r.1) else none)
  else match s.1.map fun a => a + (r.1 - a) % r.2, s.2.map fun b => b - (b - r.1) % r.2 with
    | some x, some y => if x > y then none else some (some x, some y)
    | x, y => some (x, y)
def eT : Option (Option Int × Option Int) → D
  | none => .none
  | some s => eS s
theorem eT_n : eT none = .none := id rfl
theorem eT_s (a b : Option Int) : eT (some (a, b)) = .tuple [eI a, eI b] := id rfl
theorem e_tight {s : Option Int × Option Int} {r : Int × Int} (h : Rng s) (hr : Can r.1 r.2) : sem_tight_range [eS s, eR r] = some (eT (tightQ s r)) := by
  have e1 : sem_tight_of [eS s, eR r] = some (eT (tightQ s r)) := by
    obtain ⟨a, b⟩ := s
    have tt := fun (a b : D) (u : List D → Env' → Option Env') (ρ : Env') => x_tt 2 u [a, b] ρ rfl
    rw [sem_tight_of, g_tight_of]
    unfold tightQ
    by_cases e : r.2 = 0
    · cases a with
      | none => cases b with
        | none => simp only [tt, eI_n, eI_s, e, eT_n, eT_s, if_true, Option.map_none, x_seq, x_seq1, x_seq2, x_seq3, x_seq4, x_seq5, x_asg, x_asg1, x_asgF, x_asgF1, x_exp, x_exp1, x_ret, x_ret1, x_retF, x_retF1, x_retN, x_skip, x_brk, x_cnt, x_if, x_if1, x_if2, x_and, x_and1, x_and2, x_or, x_or1, x_or2, x_not, x_not1, x_bool, x_bool1, x_andV, x_andV1, x_andV2, x_orV, x_orV1, x_orV2, x_notV, x_notV1, x_ifV, x_ifV1, x_ifV2, x_cE, x_nm, x_nm1, x_nm2, x_rd, x_rd1, x_rd2, x_rd3, x_ev0, x_ev, x_ev1, x_ev2, x_pk, x_pk1, x_pk2, x_pk3, x_vv0, x_vv, x_vv1, x_op, x_op1, x_op2, x_ca, x_ck, x_ci, x_ci0, x_ci1, x_ci2, x_ci3, x_ci4, x_ci5, x_tup, x_tup1, x_lst, x_lst1, x_ch, x_ch1, x_ch2, x_ch3, x_ch4, x_ch5, x_asgT, x_asgT1, x_nx, x_par, x_par1, x_par2, x_par3, x_par31, x_par32, x_par33, x_tn, x_t0, x_tc, x_ts, x_ts0, x_ts1, x_up1, x_up2, x_upO, x_upI, x_app, x_app0, x_app1, x_for, x_for1, x_fl1, x_fl2, x_fl3, x_fl4, x_fl5, x_fl6, x_turn, x_its, x_its1, x_its2, x_its3, x_rg1, x_rg2, x_rg21, x_en, x_en1, x_zp, x_zp1, x_zp2, x_zp3, x_st, x_st0, x_st1, x_st2, x_st3, x_yes, x_lc2, x_rA1, x_rA2, x_rF1, x_rI1, x_rI2, x_wh1, x_wh2, x_wh3, x_wh4, x_wh5, o_add, o_sub, o_neg, o_lt, o_le, o_gt, o_ge, o_eq, o_ne, o_eqB, o_neB, o_int, o_abs, o_max, o_min, o_lenL, o_lenT, o_ix0, o_ix1, o_ixl0, o_ixl1, o_ixl2, o_isi, o_isi2, o_isN, o_notN, o_isB, o_notB, x_A0, x_F0, x_I0, x_A1, x_F1, x_I1, x_A2, x_F2, x_I2, x_A3, x_F3, x_I3, x_A4, x_F4, x_I4, x_A5, x_F5, x_I5, x_A6, x_F6, x_I6, x_A7, x_F7, x_I7, x_A8, x_F8, x_I8, x_wi0, x_wi, x_re0, x_re, x_re1, x_ok0, x_ok, x_ok1, x_ok2, o_not0, x_g0, x_gS, x_s0, x_sS, x_bs, x_bn, x_ms, x_isNnone, x_isNbool, x_isNint, x_isNstr, x_isNlist, x_isNtuple, x_isNdict, x_tyintnone, x_tyintbool, x_tyintint, x_tyintstr, x_tyintlist, x_tyinttuple, x_tyintdict, x_tyboolnone, x_tyboolbool, x_tyboolint, x_tyboolstr, x_tyboollist, x_tybooltuple, x_tybooldict, x_tystrnone, x_tystrbool, x_tystrint, x_tystrstr, x_tystrlist, x_tystrtuple, x_tystrdict, x_tytupnone, x_tytupbool, x_tytupint, x_tytupstr, x_tytuplist, x_tytuptuple, x_tytupdict, x_tylstnone, x_tylstbool, x_tylstint, x_tylststr, x_tylstlist, x_tylsttuple, x_tylstdict, x_tydctnone, x_tydctbool, x_tydctint, x_tydctstr, x_tydctlist, x_tydcttuple, x_tydctdict, x_be0, x_bn0, x_be1, x_bn1, x_be2, x_bn2, x_be3, x_bn3, List.length_cons, List.length_nil, List.map_cons, List.map_nil, List.replicate, List.cons_append, List.nil_append, List.append_nil, startE, pick, List.filterMap_cons, List.filterMap_nil, Bool.or_false, Bool.false_or, Bool.or_true, Bool.true_or, Bool.and_true, Bool.true_and, Bool.and_false, Bool.false_and, Bool.not_true, Bool.not_false, Bool.not_not, decide_true, decide_false, Int.cast_ofNat_Int, Nat.reduceAdd, Nat.zero_add, Int.reduceEq, Int.reduceLT, Int.reduceLE, Int.reduceGT, Int.reduceGE, Int.reduceAdd, Int.reduceSub, Int.reduceMul, Int.reduceNeg, Int.reducePow, Int.reduceToNat]
        | some j => by_cases hj : r.1 ≤ j <;> simp only [tt, eI_n, eI_s, e, eT_n, eT_s, if_true, hj, Bool.false_eq_true, if_false, x_seq, x_seq1, x_seq2, x_seq3, x_seq4, x_seq5, x_asg, x_asg1, x_asgF, x_asgF1, x_exp, x_exp1, x_ret, x_ret1, x_retF, x_retF1, x_retN, x_skip, x_brk, x_cnt, x_if, x_if1, x_if2, x_and, x_and1, x_and2, x_or, x_or1, x_or2, x_not, x_not1, x_bool, x_bool1, x_andV, x_andV1, x_andV2, x_orV, x_orV1, x_orV2, x_notV, x_notV1, x_ifV, x_ifV1, x_ifV2, x_cE, x_nm, x_nm1, x_nm2, x_rd, x_rd1, x_rd2, x_rd3, x_ev0, x_ev, x_ev1, x_ev2, x_pk, x_pk1, x_pk2, x_pk3, x_vv0, x_vv, x_vv1, x_op, x_op1, x_op2, x_ca, x_ck, x_ci, x_ci0, x_ci1, x_ci2, x_ci3, x_ci4, x_ci5, x_tup, x_tup1, x_lst, x_lst1, x_ch, x_ch1, x_ch2, x_ch3, x_ch4, x_ch5, x_asgT, x_asgT1, x_nx, x_par, x_par1, x_par2, x_par3, x_par31, x_par32, x_par33, x_tn, x_t0, x_tc, x_ts, x_ts0, x_ts1, x_up1, x_up2, x_upO, x_upI, x_app, x_app0, x_app1, x_for, x_for1, x_fl1, x_fl2, x_fl3, x_fl4, x_fl5, x_fl6, x_turn, x_its, x_its1, x_its2, x_its3, x_rg1, x_rg2, x_rg21, x_en, x_en1, x_zp, x_zp1, x_zp2, x_zp3, x_st, x_st0, x_st1, x_st2, x_st3, x_yes, x_lc2, x_rA1, x_rA2, x_rF1, x_rI1, x_rI2, x_wh1, x_wh2, x_wh3, x_wh4, x_wh5, o_add, o_sub, o_neg, o_lt, o_le, o_gt, o_ge, o_eq, o_ne, o_eqB, o_neB, o_int, o_abs, o_max, o_min, o_lenL, o_lenT, o_ix0, o_ix1, o_ixl0, o_ixl1, o_ixl2, o_isi, o_isi2, o_isN, o_notN, o_isB, o_notB, x_A0, x_F0, x_I0, x_A1, x_F1, x_I1, x_A2, x_F2, x_I2, x_A3, x_F3, x_I3, x_A4, x_F4, x_I4, x_A5, x_F5, x_I5, x_A6, x_F6, x_I6, x_A7, x_F7, x_I7, x_A8, x_F8, x_I8, x_wi0, x_wi, x_re0, x_re, x_re1, x_ok0, x_ok, x_ok1, x_ok2, o_not0, x_g0, x_gS, x_s0, x_sS, x_bs, x_bn, x_ms, x_isNnone, x_isNbool, x_isNint, x_isNstr, x_isNlist, x_isNtuple, x_isNdict, x_tyintnone, x_tyintbool, x_tyintint, x_tyintstr, x_tyintlist, x_tyinttuple, x_tyintdict, x_tyboolnone, x_tyboolbool, x_tyboolint, x_tyboolstr, x_tyboollist, x_tybooltuple, x_tybooldict, x_tystrnone, x_tystrbool, x_tystrint, x_tystrstr, x_tystrlist, x_tystrtuple, x_tystrdict, x_tytupnone, x_tytupbool, x_tytupint, x_tytupstr, x_tytuplist, x_tytuptuple, x_tytupdict, x_tylstnone, x_tylstbool, x_tylstint, x_tylststr, x_tylstlist, x_tylsttuple, x_tylstdict, x_tydctnone, x_tydctbool, x_tydctint, x_tydctstr, x_tydctlist, x_tydcttuple, x_tydctdict, x_be0, x_bn0, x_be1, x_bn1, x_be2, x_bn2, x_be3, x_bn3, List.length_cons, List.length_nil, List.map_cons, List.map_nil, List.replicate, List.cons_append, List.nil_append, List.append_nil, startE, pick, List.filterMap_cons, List.filterMap_nil, Bool.or_false, Bool.false_or, Bool.or_true, Bool.true_or, Bool.and_true, Bool.true_and, Bool.and_false, Bool.false_and, Bool.not_true, Bool.not_false, Bool.not_not, decide_true, decide_false, Int.cast_ofNat_Int, Nat.reduceAdd, Nat.zero_add, Int.reduceEq, Int.reduceLT, Int.reduceLE, Int.reduceGT, Int.reduceGE, Int.reduceAdd, Int.reduceSub, Int.reduceMul, Int.reduceNeg, Int.reducePow, Int.reduceToNat]
      | some i => cases b with
        | none => by_cases hi : i ≤ r.1 <;> simp only [tt, eI_n, eI_s, e, eT_n, eT_s, if_true, hi, Bool.false_eq_true, if_false, x_seq, x_seq1, x_seq2, x_seq3, x_seq4, x_seq5, x_asg, x_asg1, x_asgF, x_asgF1, x_exp, x_exp1, x_ret, x_ret1, x_retF, x_retF1, x_retN, x_skip, x_brk, x_cnt, x_if, x_if1, x_if2, x_and, x_and1, x_and2, x_or, x_or1, x_or2, x_not, x_not1, x_bool, x_bool1, x_andV, x_andV1, x_andV2, x_orV, x_orV1, x_orV2, x_notV, x_notV1, x_ifV, x_ifV1, x_ifV2, x_cE, x_nm, x_nm1, x_nm2, x_rd, x_rd1, x_rd2, x_rd3, x_ev0, x_ev, x_ev1, x_ev2, x_pk, x_pk1, x_pk2, x_pk3, x_vv0, x_vv, x_vv1, x_op, x_op1, x_op2, x_ca, x_ck, x_ci, x_ci0, x_ci1, x_ci2, x_ci3, x_ci4, x_ci5, x_tup, x_tup1, x_lst, x_lst1, x_ch, x_ch1, x_ch2, x_ch3, x_ch4, x_ch5, x_asgT, x_asgT1, x_nx, x_par, x_par1, x_par2, x_par3, x_par31, x_par32, x_par33, x_tn, x_t0, x_tc, x_ts, x_ts0, x_ts1, x_up1, x_up2, x_upO, x_upI, x_app, x_app0, x_app1, x_for, x_for1, x_fl1, x_fl2, x_fl3, x_fl4, x_fl5, x_fl6, x_turn, x_its, x_its1, x_its2, x_its3, x_rg1, x_rg2, x_rg21, x_en, x_en1, x_zp, x_zp1, x_zp2, x_zp3, x_st, x_st0, x_st1, x_st2, x_st3, x_yes, x_lc2, x_rA1, x_rA2, x_rF1, x_rI1, x_rI2, x_wh1, x_wh2, x_wh3, x_wh4, x_wh5, o_add, o_sub, o_neg, o_lt, o_le, o_gt, o_ge, o_eq, o_ne, o_eqB, o_neB, o_int, o_abs, o_max, o_min, o_lenL, o_lenT, o_ix0, o_ix1, o_ixl0, o_ixl1, o_ixl2, o_isi, o_isi2, o_isN, o_notN, o_isB, o_notB, x_A0, x_F0, x_I0, x_A1, x_F1, x_I1, x_A2, x_F2, x_I2, x_A3, x_F3, x_I3, x_A4, x_F4, x_I4, x_A5, x_F5, x_I5, x_A6, x_F6, x_I6, x_A7, x_F7, x_I7, x_A8, x_F8, x_I8, x_wi0, x_wi, x_re0, x_re, x_re1, x_ok0, x_ok, x_ok1, x_ok2, o_not0, x_g0, x_gS, x_s0, x_sS, x_bs, x_bn, x_ms, x_isNnone, x_isNbool, x_isNint, x_isNstr, x_isNlist, x_isNtuple, x_isNdict, x_tyintnone, x_tyintbool, x_tyintint, x_tyintstr, x_tyintlist, x_tyinttuple, x_tyintdict, x_tyboolnone, x_tyboolbool, x_tyboolint, x_tyboolstr, x_tyboollist, x_tybooltuple, x_tybooldict, x_tystrnone, x_tystrbool, x_tystrint, x_tystrstr, x_tystrlist, x_tystrtuple, x_tystrdict, x_tytupnone, x_tytupbool, x_tytupint, x_tytupstr, x_tytuplist, x_tytuptuple, x_tytupdict, x_tylstnone, x_tylstbool, x_tylstint, x_tylststr, x_tylstlist, x_tylsttuple, x_tylstdict, x_tydctnone, x_tydctbool, x_tydctint, x_tydctstr, x_tydctlist, x_tydcttuple, x_tydctdict, x_be0, x_bn0, x_be1, x_bn1, x_be2, x_bn2, x_be3, x_bn3, List.length_cons, List.length_nil, List.map_cons, List.map_nil, List.replicate, List.cons_append, List.nil_append, List.append_nil, startE, pick, List.filterMap_cons, List.filterMap_nil, Bool.or_false, Bool.false_or, Bool.or_true, Bool.true_or, Bool.and_true, Bool.true_and, Bool.and_false, Bool.false_and, Bool.not_true, Bool.not_false, Bool.not_not, decide_true, decide_false, Int.cast_ofNat_Int, Nat.reduceAdd, Nat.zero_add, Int.reduceEq, Int.reduceLT, Int.reduceLE, Int.reduceGT, Int.reduceGE, Int.reduceAdd, Int.reduceSub, Int.reduceMul, Int.reduceNeg, Int.reducePow, Int.reduceToNat]
        | some j => by_cases hi : i ≤ r.1 <;> by_cases hj : r.1 ≤ j <;> simp only [tt, eI_n, eI_s, e, eT_n, eT_s, if_true, hi, hj, Bool.false_eq_true, if_false, x_seq, x_seq1, x_seq2, x_seq3, x_seq4, x_seq5, x_asg, x_asg1, x_asgF, x_asgF1, x_exp, x_exp1, x_ret, x_ret1, x_retF, x_retF1, x_retN, x_skip, x_brk, x_cnt, x_if, x_if1, x_if2, x_and, x_and1, x_and2, x_or, x_or1, x_or2, x_not, x_not1, x_bool, x_bool1, x_andV, x_andV1, x_andV2, x_orV, x_orV1, x_orV2, x_notV, x_notV1, x_ifV, x_ifV1, x_ifV2, x_cE, x_nm, x_nm1, x_nm2, x_rd, x_rd1, x_rd2, x_rd3, x_ev0, x_ev, x_ev1, x_ev2, x_pk, x_pk1, x_pk2, x_pk3, x_vv0, x_vv, x_vv1, x_op, x_op1, x_op2, x_ca, x_ck, x_ci, x_ci0, x_ci1, x_ci2, x_ci3, x_ci4, x_ci5, x_tup, x_tup1, x_lst, x_lst1, x_ch, x_ch1, x_ch2, x_ch3, x_ch4, x_ch5, x_asgT, x_asgT1, x_nx, x_par, x_par1, x_par2, x_par3, x_par31, x_par32, x_par33, x_tn, x_t0, x_tc, x_ts, x_ts0, x_ts1, x_up1, x_up2, x_upO, x_upI, x_app, x_app0, x_app1, x_for, x_for1, x_fl1, x_fl2, x_fl3, x_fl4, x_fl5, x_fl6, x_turn, x_its, x_its1, x_its2, x_its3, x_rg1, x_rg2, x_rg21, x_en, x_en1, x_zp, x_zp1, x_zp2, x_zp3, x_st, x_st0, x_st1, x_st2, x_st3, x_yes, x_lc2, x_rA1, x_rA2, x_rF1, x_rI1, x_rI2, x_wh1, x_wh2, x_wh3, x_wh4, x_wh5, o_add, o_sub, o_neg, o_lt, o_le, o_gt, o_ge, o_eq, o_ne, o_eqB, o_neB, o_int, o_abs, o_max, o_min, o_lenL, o_lenT, o_ix0, o_ix1, o_ixl0, o_ixl1, o_ixl2, o_isi, o_isi2, o_isN, o_notN, o_isB, o_notB, x_A0, x_F0, x_I0, x_A1, x_F1, x_I1, x_A2, x_F2, x_I2, x_A3, x_F3, x_I3, x_A4, x_F4, x_I4, x_A5, x_F5, x_I5, x_A6, x_F6, x_I6, x_A7, x_F7, x_I7, x_A8, x_F8, x_I8, x_wi0, x_wi, x_re0, x_re, x_re1, x_ok0, x_ok, x_ok1, x_ok2, o_not0, x_g0, x_gS, x_s0, x_sS, x_bs, x_bn, x_ms, x_isNnone, x_isNbool, x_isNint, x_isNstr, x_isNlist, x_isNtuple, x_isNdict, x_tyintnone, x_tyintbool, x_tyintint, x_tyintstr, x_tyintlist, x_tyinttuple, x_tyintdict, x_tyboolnone, x_tyboolbool, x_tyboolint, x_tyboolstr, x_tyboollist, x_tybooltuple, x_tybooldict, x_tystrnone, x_tystrbool, x_tystrint, x_tystrstr, x_tystrlist, x_tystrtuple, x_tystrdict, x_tytupnone, x_tytupbool, x_tytupint, x_tytupstr, x_tytuplist, x_tytuptuple, x_tytupdict, x_tylstnone, x_tylstbool, x_tylstint, x_tylststr, x_tylstlist, x_tylsttuple, x_tylstdict, x_tydctnone, x_tydctbool, x_tydctint, x_tydctstr, x_tydctlist, x_tydcttuple, x_tydctdict, x_be0, x_bn0, x_be1, x_bn1, x_be2, x_bn2, x_be3, x_bn3, List.length_cons, List.length_nil, List.map_cons, List.map_nil, List.replicate, List.cons_append, List.nil_append, List.append_nil, startE, pick, List.filterMap_cons, List.filterMap_nil, Bool.or_false, Bool.false_or, Bool.or_true, Bool.true_or, Bool.and_true, Bool.true_and, Bool.and_false, Bool.false_and, Bool.not_true, Bool.not_false, Bool.not_not, decide_true, decide_false, Int.cast_ofNat_Int, Nat.reduceAdd, Nat.zero_add, Int.reduceEq, Int.reduceLT, Int.reduceLE, Int.reduceGT, Int.reduceGE, Int.reduceAdd, Int.reduceSub, Int.reduceMul, Int.reduceNeg, Int.reducePow, Int.reduceToNat]
    · have hp : 0 < r.2 := by have := hr.1; omega
      cases a with
      | none => cases b <;> simp only [tt, eI_n, eI_s, e, eT_n, eT_s, if_false, o_mod hp, Option.map_none, Option.map_some, x_seq, x_seq1, x_seq2, x_seq3, x_seq4, x_seq5, x_asg, x_asg1, x_asgF, x_asgF1, x_exp, x_exp1, x_ret, x_ret1, x_retF, x_retF1, x_retN, x_skip, x_brk, x_cnt, x_if, x_if1, x_if2, x_and, x_and1, x_and2, x_or, x_or1, x_or2, x_not, x_not1, x_bool, x_bool1, x_andV, x_andV1, x_andV2, x_orV, x_orV1, x_orV2, x_notV, x_notV1, x_ifV, x_ifV1, x_ifV2, x_cE, x_nm, x_nm1, x_nm2, x_rd, x_rd1, x_rd2, x_rd3, x_ev0, x_ev, x_ev1, x_ev2, x_pk, x_pk1, x_pk2, x_pk3, x_vv0, x_vv, x_vv1, x_op, x_op1, x_op2, x_ca, x_ck, x_ci, x_ci0, x_ci1, x_ci2, x_ci3, x_ci4, x_ci5, x_tup, x_tup1, x_lst, x_lst1, x_ch, x_ch1, x_ch2, x_ch3, x_ch4, x_ch5, x_asgT, x_asgT1, x_nx, x_par, x_par1, x_par2, x_par3, x_par31, x_par32, x_par33, x_tn, x_t0, x_tc, x_ts, x_ts0, x_ts1, x_up1, x_up2, x_upO, x_upI, x_app, x_app0, x_app1, x_for, x_for1, x_fl1, x_fl2, x_fl3, x_fl4, x_fl5, x_fl6, x_turn, x_its, x_its1, x_its2, x_its3, x_rg1, x_rg2, x_rg21, x_en, x_en1, x_zp, x_zp1, x_zp2, x_zp3, x_st, x_st0, x_st1, x_st2, x_st3, x_yes, x_lc2, x_rA1, x_rA2, x_rF1, x_rI1, x_rI2, x_wh1, x_wh2, x_wh3, x_wh4, x_wh5, o_add, o_sub, o_neg, o_lt, o_le, o_gt, o_ge, o_eq, o_ne, o_eqB, o_neB, o_int, o_abs, o_max, o_min, o_lenL, o_lenT, o_ix0, o_ix1, o_ixl0, o_ixl1, o_ixl2, o_isi, o_isi2, o_isN, o_notN, o_isB, o_notB, x_A0, x_F0, x_I0, x_A1, x_F1, x_I1, x_A2, x_F2, x_I2, x_A3, x_F3, x_I3, x_A4, x_F4, x_I4, x_A5, x_F5, x_I5, x_A6, x_F6, x_I6, x_A7, x_F7, x_I7, x_A8, x_F8, x_I8, x_wi0, x_wi, x_re0, x_re, x_re1, x_ok0, x_ok, x_ok1, x_ok2, o_not0, x_g0, x_gS, x_s0, x_sS, x_bs, x_bn, x_ms, x_isNnone, x_isNbool, x_isNint, x_isNstr, x_isNlist, x_isNtuple, x_isNdict, x_tyintnone, x_tyintbool, x_tyintint, x_tyintstr, x_tyintlist, x_tyinttuple, x_tyintdict, x_tyboolnone, x_tyboolbool, x_tyboolint, x_tyboolstr, x_tyboollist, x_tybooltuple, x_tybooldict, x_tystrnone, x_tystrbool, x_tystrint, x_tystrstr, x_tystrlist, x_tystrtuple, x_tystrdict, x_tytupnone, x_tytupbool, x_tytupint, x_tytupstr, x_tytuplist, x_tytuptuple, x_tytupdict, x_tylstnone, x_tylstbool, x_tylstint, x_tylststr, x_tylstlist, x_tylsttuple, x_tylstdict, x_tydctnone, x_tydctbool, x_tydctint, x_tydctstr, x_tydctlist, x_tydcttuple, x_tydctdict, x_be0, x_bn0, x_be1, x_bn1, x_be2, x_bn2, x_be3, x_bn3, List.length_cons, List.length_nil, List.map_cons, List.map_nil, List.replicate, List.cons_append, List.nil_append, List.append_nil, startE, pick, List.filterMap_cons, List.filterMap_nil, Bool.or_false, Bool.false_or, Bool.or_true, Bool.true_or, Bool.and_true, Bool.true_and, Bool.and_false, Bool.false_and, Bool.not_true, Bool.not_false, Bool.not_not, decide_true, decide_false, Int.cast_ofNat_Int, Nat.reduceAdd, Nat.zero_add, Int.reduceEq, Int.reduceLT, Int.reduceLE, Int.reduceGT, Int.reduceGE, Int.reduceAdd, Int.reduceSub, Int.reduceMul, Int.reduceNeg, Int.reducePow, Int.reduceToNat]
      | some i => cases b with
        | none => simp only [tt, eI_n, eI_s, e, eT_n, eT_s, if_false, o_mod hp, Option.map_none, Option.map_some, x_seq, x_seq1, x_seq2, x_seq3, x_seq4, x_seq5, x_asg, x_asg1, x_asgF, x_asgF1, x_exp, x_exp1, x_ret, x_ret1, x_retF, x_retF1, x_retN, x_skip, x_brk, x_cnt, x_if, x_if1, x_if2, x_and, x_and1, x_and2, x_or, x_or1, x_or2, x_not, x_not1, x_bool, x_bool1, x_andV, x_andV1, x_andV2, x_orV, x_orV1, x_orV2, x_notV, x_notV1, x_ifV, x_ifV1, x_ifV2, x_cE, x_nm, x_nm1, x_nm2, x_rd, x_rd1, x_rd2, x_rd3, x_ev0, x_ev, x_ev1, x_ev2, x_pk, x_pk1, x_pk2, x_pk3, x_vv0, x_vv, x_vv1, x_op, x_op1, x_op2, x_ca, x_ck, x_ci, x_ci0, x_ci1, x_ci2, x_ci3, x_ci4, x_ci5, x_tup, x_tup1, x_lst, x_lst1, x_ch, x_ch1, x_ch2, x_ch3, x_ch4, x_ch5, x_asgT, x_asgT1, x_nx, x_par, x_par1, x_par2, x_par3, x_par31, x_par32, x_par33, x_tn, x_t0, x_tc, x_ts, x_ts0, x_ts1, x_up1, x_up2, x_upO, x_upI, x_app, x_app0, x_app1, x_for, x_for1, x_fl1, x_fl2, x_fl3, x_fl4, x_fl5, x_fl6, x_turn, x_its, x_its1, x_its2, x_its3, x_rg1, x_rg2, x_rg21, x_en, x_en1, x_zp, x_zp1, x_zp2, x_zp3, x_st, x_st0, x_st1, x_st2, x_st3, x_yes, x_lc2, x_rA1, x_rA2, x_rF1, x_rI1, x_rI2, x_wh1, x_wh2, x_wh3, x_wh4, x_wh5, o_add, o_sub, o_neg, o_lt, o_le, o_gt, o_ge, o_eq, o_ne, o_eqB, o_neB, o_int, o_abs, o_max, o_min, o_lenL, o_lenT, o_ix0, o_ix1, o_ixl0, o_ixl1, o_ixl2, o_isi, o_isi2, o_isN, o_notN, o_isB, o_notB, x_A0, x_F0, x_I0, x_A1, x_F1, x_I1, x_A2, x_F2, x_I2, x_A3, x_F3, x_I3, x_A4, x_F4, x_I4, x_A5, x_F5, x_I5, x_A6, x_F6, x_I6, x_A7, x_F7, x_I7, x_A8, x_F8, x_I8, x_wi0, x_wi, x_re0, x_re, x_re1, x_ok0, x_ok, x_ok1, x_ok2, o_not0, x_g0, x_gS, x_s0, x_sS, x_bs, x_bn, x_ms, x_isNnone, x_isNbool, x_isNint, x_isNstr, x_isNlist, x_isNtuple, x_isNdict, x_tyintnone, x_tyintbool, x_tyintint, x_tyintstr, x_tyintlist, x_tyinttuple, x_tyintdict, x_tyboolnone, x_tyboolbool, x_tyboolint, x_tyboolstr, x_tyboollist, x_tybooltuple, x_tybooldict, x_tystrnone, x_tystrbool, x_tystrint, x_tystrstr, x_tystrlist, x_tystrtuple, x_tystrdict, x_tytupnone, x_tytupbool, x_tytupint, x_tytupstr, x_tytuplist, x_tytuptuple, x_tytupdict, x_tylstnone, x_tylstbool, x_tylstint, x_tylststr, x_tylstlist, x_tylsttuple, x_tylstdict, x_tydctnone, x_tydctbool, x_tydctint, x_tydctstr, x_tydctlist, x_tydcttuple, x_tydctdict, x_be0, x_bn0, x_be1, x_bn1, x_be2, x_bn2, x_be3, x_bn3, List.length_cons, List.length_nil, List.map_cons, List.map_nil, List.replicate, List.cons_append, List.nil_append, List.append_nil, startE, pick, List.filterMap_cons, List.filterMap_nil, Bool.or_false, Bool.false_or, Bool.or_true, Bool.true_or, Bool.and_true, Bool.true_and, Bool.and_false, Bool.false_and, Bool.not_true, Bool.not_false, Bool.not_not, decide_true, decide_false, Int.cast_ofNat_Int, Nat.reduceAdd, Nat.zero_add, Int.reduceEq, Int.reduceLT, Int.reduceLE, Int.reduceGT, Int.reduceGE, Int.reduceAdd, Int.reduceSub, Int.reduceMul, Int.reduceNeg, Int.reducePow, Int.reduceToNat]
        | some j =>
          by_cases hij : i + (r.1 - i) % r.2 > j - (j - r.1) % r.2 <;> simp only [tt, eI_n, eI_s, e, eT_n, eT_s, if_false, if_true, o_mod hp, Option.map_some, hij, x_seq, x_seq1, x_seq2, x_seq3, x_seq4, x_seq5, x_asg, x_asg1, x_asgF, x_asgF1, x_exp, x_exp1, x_ret, x_ret1, x_retF, x_retF1, x_retN, x_skip, x_brk, x_cnt, x_if, x_if1, x_if2, x_and, x_and1, x_and2, x_or, x_or1, x_or2, x_not, x_not1, x_bool, x_bool1, x_andV, x_andV1, x_andV2, x_orV, x_orV1, x_orV2, x_notV, x_notV1, x_ifV, x_ifV1, x_ifV2, x_cE, x_nm, x_nm1, x_nm2, x_rd, x_rd1, x_rd2, x_rd3, x_ev0, x_ev, x_ev1, x_ev2, x_pk, x_pk1, x_pk2, x_pk3, x_vv0, x_vv, x_vv1, x_op, x_op1, x_op2, x_ca, x_ck, x_ci, x_ci0, x_ci1, x_ci2, x_ci3, x_ci4, x_ci5, x_tup, x_tup1, x_lst, x_lst1, x_ch, x_ch1, x_ch2, x_ch3, x_ch4, x_ch5, x_asgT, x_asgT1, x_nx, x_par, x_par1, x_par2, x_par3, x_par31, x_par32, x_par33, x_tn, x_t0, x_tc, x_ts, x_ts0, x_ts1, x_up1, x_up2, x_upO, x_upI, x_app, x_app0, x_app1, x_for, x_for1, x_fl1, x_fl2, x_fl3, x_fl4, x_fl5, x_fl6, x_turn, x_its, x_its1, x_its2, x_its3, x_rg1, x_rg2, x_rg21, x_en, x_en1, x_zp, x_zp1, x_zp2, x_zp3, x_st, x_st0, x_st1, x_st2, x_st3, x_yes, x_lc2, x_rA1, x_rA2, x_rF1, x_rI1, x_rI2, x_wh1, x_wh2, x_wh3, x_wh4, x_wh5, o_add, o_sub, o_neg, o_lt, o_le, o_gt, o_ge, o_eq, o_ne, o_eqB, o_neB, o_int, o_abs, o_max, o_min, o_lenL, o_lenT, o_ix0, o_ix1, o_ixl0, o_ixl1, o_ixl2, o_isi, o_isi2, o_isN, o_notN, o_isB, o_notB, x_A0, x_F0, x_I0, x_A1, x_F1, x_I1, x_A2, x_F2, x_I2, x_A3, x_F3, x_I3, x_A4, x_F4, x_I4, x_A5, x_F5, x_I5, x_A6, x_F6, x_I6, x_A7, x_F7, x_I7, x_A8, x_F8, x_I8, x_wi0, x_wi, x_re0, x_re, x_re1, x_ok0, x_ok, x_ok1, x_ok2, o_not0, x_g0, x_gS, x_s0, x_sS, x_bs, x_bn, x_ms, x_isNnone, x_isNbool, x_isNint, x_isNstr, x_isNlist, x_isNtuple, x_isNdict, x_tyintnone, x_tyintbool, x_tyintint, x_tyintstr, x_tyintlist, x_tyinttuple, x_tyintdict, x_tyboolnone, x_tyboolbool, x_tyboolint, x_tyboolstr, x_tyboollist, x_tybooltuple, x_tybooldict, x_tystrnone, x_tystrbool, x_tystrint, x_tystrstr, x_tystrlist, x_tystrtuple, x_tystrdict, x_tytupnone, x_tytupbool, x_tytupint, x_tytupstr, x_tytuplist, x_tytuptuple, x_tytupdict, x_tylstnone, x_tylstbool, x_tylstint, x_tylststr, x_tylstlist, x_tylsttuple, x_tylstdict, x_tydctnone, x_tydctbool, x_tydctint, x_tydctstr, x_tydctlist, x_tydcttuple, x_tydctdict, x_be0, x_bn0, x_be1, x_bn1, x_be2, x_bn2, x_be3, x_bn3, List.length_cons, List.length_nil, List.map_cons, List.map_nil, List.replicate, List.cons_append, List.nil_append, List.append_nil, startE, pick, List.filterMap_cons, List.filterMap_nil, Bool.or_false, Bool.false_or, Bool.or_true, Bool.true_or, Bool.and_true, Bool.true_and, Bool.and_false, Bool.false_and, Bool.not_true, Bool.not_false, Bool.not_not, decide_true, decide_false, Int.cast_ofNat_Int, Nat.reduceAdd, Nat.zero_add, Int.reduceEq, Int.reduceLT, Int.reduceLE, Int.reduceGT, Int.reduceGE, Int.reduceAdd, Int.reduceSub, Int.reduceMul, Int.reduceNeg, Int.reducePow, Int.reduceToNat]
  rw [sem_tight_range, g_tight_range]
  simp only [e_is_range h, e_check_rest hr, e1, x_seq, x_seq1, x_seq2, x_seq3, x_seq4, x_seq5, x_asg, x_asg1, x_asgF, x_asgF1, x_exp, x_exp1, x_ret, x_ret1, x_retF, x_retF1, x_retN, x_skip, x_brk, x_cnt, x_if, x_if1, x_if2, x_and, x_and1, x_and2, x_or, x_or1, x_or2, x_not, x_not1, x_bool, x_bool1, x_andV, x_andV1, x_andV2, x_orV, x_orV1, x_orV2, x_notV, x_notV1, x_ifV, x_ifV1, x_ifV2, x_cE, x_nm, x_nm1, x_nm2, x_rd, x_rd1, x_rd2, x_rd3, x_ev0, x_ev, x_ev1, x_ev2, x_pk, x_pk1, x_pk2, x_pk3, x_vv0, x_vv, x_vv1, x_op, x_op1, x_op2, x_ca, x_ck, x_ci, x_ci0, x_ci1, x_ci2, x_ci3, x_ci4, x_ci5, x_tup, x_tup1, x_lst, x_lst1, x_ch, x_ch1, x_ch2, x_ch3, x_ch4, x_ch5, x_asgT, x_asgT1, x_nx, x_par, x_par1, x_par2, x_par3, x_par31, x_par32, x_par33, x_tn, x_t0, x_tc, x_ts, x_ts0, x_ts1, x_up1, x_up2, x_upO, x_upI, x_app, x_app0, x_app1, x_for, x_for1, x_fl1, x_fl2, x_fl3, x_fl4, x_fl5, x_fl6, x_turn, x_its, x_its1, x_its2, x_its3, x_rg1, x_rg2, x_rg21, x_en, x_en1, x_zp, x_zp1, x_zp2, x_zp3, x_st, x_st0, x_st1, x_st2, x_st3, x_yes, x_lc2, x_rA1, x_rA2, x_rF1, x_rI1, x_rI2, x_wh1, x_wh2, x_wh3, x_wh4, x_wh5, o_add, o_sub, o_neg, o_lt, o_le, o_gt, o_ge, o_eq, o_ne, o_eqB, o_neB, o_int, o_abs, o_max, o_min, o_lenL, o_lenT, o_ix0, o_ix1, o_ixl0, o_ixl1, o_ixl2, o_isi, o_isi2, o_isN, o_notN, o_isB, o_notB, x_A0, x_F0, x_I0, x_A1, x_F1, x_I1, x_A2, x_F2, x_I2, x_A3, x_F3, x_I3, x_A4, x_F4, x_I4, x_A5, x_F5, x_I5, x_A6, x_F6, x_I6, x_A7, x_F7, x_I7, x_A8, x_F8, x_I8, x_wi0, x_wi, x_re0, x_re, x_re1, x_ok0, x_ok, x_ok1, x_ok2, o_not0, x_g0, x_gS, x_s0, x_sS, x_bs, x_bn, x_ms, x_isNnone, x_isNbool, x_isNint, x_isNstr, x_isNlist, x_isNtuple, x_isNdict, x_tyintnone, x_tyintbool, x_tyintint, x_tyintstr, x_tyintlist, x_tyinttuple, x_tyintdict, x_tyboolnone, x_tyboolbool, x_tyboolint, x_tyboolstr, x_tyboollist, x_tybooltuple, x_tybooldict, x_tystrnone, x_tystrbool, x_tystrint, x_tystrstr, x_tystrlist, x_tystrtuple, x_tystrdict, x_tytupnone, x_tytupbool, x_tytupint, x_tytupstr, x_tytuplist, x_tytuptuple, x_tytupdict, x_tylstnone, x_tylstbool, x_tylstint, x_tylststr, x_tylstlist, x_tylsttuple, x_tylstdict, x_tydctnone, x_tydctbool, x_tydctint, x_tydctstr, x_tydctlist, x_tydcttuple, x_tydctdict, x_be0, x_bn0, x_be1, x_bn1, x_be2, x_bn2, x_be3, x_bn3, List.length_cons, List.length_nil, List.map_cons, List.map_nil, List.replicate, List.cons_append, List.nil_append, List.append_nil, startE, pick, List.filterMap_cons, List.filterMap_nil, Bool.or_false, Bool.false_or, Bool.or_true, Bool.true_or, Bool.and_true, Bool.true_and, Bool.and_false, Bool.false_and, Bool.not_true, Bool.not_false, Bool.not_not, decide_true, decide_false, Int.cast_ofNat_Int, Nat.reduceAdd, Nat.zero_add, Int.reduceEq, Int.reduceLT, Int.reduceLE, Int.reduceGT, Int.reduceGE, Int.reduceAdd, Int.reduceSub, Int.reduceMul, Int.reduceNeg, Int.reducePow, Int.reduceToNat]
end LW

set_option maxRecDepth 20000
set_option maxHeartbeats 0
namespace LW
open PySem PySem.Spec PyProof.Rows L2 MP RT
/-! sorted lists -/
theorem pw_first {l : List Int} {n : Int} (h : l.Pairwise (· < ·)) (hn : n ∈ l) (hm : ∀ m ∈ l, n ≤ m) : ∃ t, l = n :: t := by
  cases l with
  | nil => cases hn
  | cons a t =>
    rw [List.pairwise_cons] at h
    have h1 := hm a List.mem_cons_self
    rcases List.mem_cons.mp hn with z | z
    · exact ⟨t, by rw [z]⟩
    · have := h.1 n z; omega
theorem pw_last {l : List Int} {n : Int} (h : l.Pairwise (· < ·)) (hn : n ∈ l) (hm : ∀ m ∈ l, m ≤ n) : ∃ t, l = t ++ [n] := by
  rcases List.eq_nil_or_concat l with z | ⟨t, a, z⟩
  · rw [z] at hn; cases hn
  · rw [List.concat_eq_append] at z
    subst z
    rw [List.pairwise_append] at h
    have h1 := hm a (List.mem_append_right _ (List.mem_singleton.mpr rfl))
    rcases List.mem_append.mp hn with y | y
    · have := h.2.2 n y a (List.mem_singleton.mpr rfl); omega
    · rw [List.mem_singleton] at y; subst y; exact ⟨t, rfl⟩
theorem ix_first (x : Int) (t : List Int) : ixD [.list ((x :: t).map .int), .int 0] = some (.int x) := by rw [List.map_cons, o_ixl0]
theorem ix_last (x : Int) (t : List Int) : ixD [.list ((t ++ [x]).map .int), .int (-1)] = some (.int x) := by
  show L2.atI _ _ = _
  unfold L2.atI L2.ixN
  rw [if_neg (by decide), if_pos (by simp; omega), Option.bind_some]
  have : ((-1 : Int) + (((t ++ [x]).map PyData.int).length : Nat)).toNat = t.length := by simp; omega
  rw [this]
  simp
def numsP (p : Int → Bool) (lo hi : Int) : List Int := ((List.range (hi - lo).toNat).map fun i => lo + (i : Nat)).filter p
theorem mem_numsP {p : Int → Bool} {lo hi n : Int} : n ∈ numsP p lo hi ↔ lo ≤ n ∧ n < hi ∧ p n = true := by
  unfold numsP
  rw [List.mem_filter, List.mem_map]
  constructor
  · rintro ⟨⟨i, hi', rfl⟩, h⟩
    rw [List.mem_range] at hi'
    exact ⟨by omega, by omega, h⟩
  · rintro ⟨h1, h2, h3⟩
    exact ⟨⟨(n - lo).toNat, by rw [List.mem_range]; omega, by omega⟩, h3⟩
theorem pw_numsP (p : Int → Bool) (lo hi : Int) : (numsP p lo hi).Pairwise (· < ·) := by
  unfold numsP
  refine List.Pairwise.filter p ?_
  rw [List.pairwise_map]
  exact List.pairwise_lt_range.imp fun h => by omega
/-! the least number from a on, the greatest to b -/
section
variable {f s : Int} (hs : 0 < s)
theorem up_mem (a : Int) : Mem f s (a + (f - a) % s) := by
  obtain ⟨k, hk⟩ := emod_dvd (f - a) s
  exact dvd_of (-k) (by grind)
theorem dn_mem (b : Int) : Mem f s (b - (b - f) % s) := by
  obtain ⟨k, hk⟩ := emod_dvd (b - f) s
  exact dvd_of k (by grind)
include hs
theorem up_bd (a : Int) : a ≤ a + (f - a) % s ∧ a + (f - a) % s < a + s := by
  have h1 := Int.emod_nonneg (f - a) (show s ≠ 0 by omega)
  have h2 := Int.emod_lt_of_pos (f - a) hs
  omega
theorem dn_bd (b : Int) : b - s < b - (b - f) % s ∧ b - (b - f) % s ≤ b := by
  have h1 := Int.emod_nonneg (b - f) (show s ≠ 0 by omega)
  have h2 := Int.emod_lt_of_pos (b - f) hs
  omega
theorem mem_gap {m n : Int} (hm : Mem f s m) (hn : Mem f s n) (h : m < n) : m + s ≤ n := by
  obtain ⟨x, hx⟩ := hm
  obtain ⟨y, hy⟩ := hn
  have : s * (y - x) = n - m := by grind
  have h1 : 0 < y - x := by
    rcases Int.lt_or_le 0 (y - x) with z | z
    · exact z
    · have := Int.mul_nonpos_of_nonneg_of_nonpos (show 0 ≤ s by omega) z
      omega
  have h2 : s * 1 ≤ s * (y - x) := Int.mul_le_mul_of_nonneg_left (by omega) (by omega)
  omega
theorem up_least {a n : Int} (hn : Mem f s n) (h : a ≤ n) : a + (f - a) % s ≤ n := by
  rcases Int.lt_or_le n (a + (f - a) % s) with z | z
  · have := mem_gap hs hn (up_mem a) z
    have := up_bd hs (f := f) a
    omega
  · exact z
theorem dn_most {b n : Int} (hn : Mem f s n) (h : n ≤ b) : n ≤ b - (b - f) % s := by
  rcases Int.lt_or_le (b - (b - f) % s) n with z | z
  · have := mem_gap hs (dn_mem b) hn z
    have := dn_bd hs (f := f) b
    omega
  · exact z
end
def inS (sp : Option Int × Option Int) (n : Int) : Bool := (match sp.1 with | none => true | some a => decide (n ≥ a)) && (match sp.2 with | none => true | some b => decide (n ≤ b))
def pS (sp : Option Int × Option Int) (r : Int × Int) (n : Int) : Bool := inQ r.1 r.2 n && inS sp n
/-- what the window shows of the tight range -/
theorem tight_list {sp : Option Int × Option Int} {r : Int × Int} {low : Int} (hs : 0 < r.2) (hB : sp.1.getD low ≤ sp.2.getD low) :
    (numsP (pS sp r) (sp.1.getD low - r.2 - 45) (sp.2.getD low + r.2 + 45) = [] ∧ tightQ sp r = none) ∨
    (numsP (pS sp r) (sp.1.getD low - r.2 - 45) (sp.2.getD low + r.2 + 45) ≠ [] ∧ ∃ a b, tightQ sp r = some (a, b) ∧
      (sp.1 = none ∧ a = none ∨ ∃ a0 x t, sp.1 = some a0 ∧ a = some x ∧ numsP (pS sp r) (sp.1.getD low - r.2 - 45) (sp.2.getD low + r.2 + 45) = x :: t) ∧
      (sp.2 = none ∧ b = none ∨ ∃ b0 y t, sp.2 = some b0 ∧ b = some y ∧ numsP (pS sp r) (sp.1.getD low - r.2 - 45) (sp.2.getD low + r.2 + 45) = t ++ [y])) := by
  obtain ⟨f, s⟩ := r
  obtain ⟨a, b⟩ := sp
  simp only at hs hB ⊢
  have hne : ¬ s = 0 := by omega
  have pw := pw_numsP (pS (a, b) (f, s)) (a.getD low - s - 45) (b.getD low + s + 45)
  have me : ∀ n, n ∈ numsP (pS (a, b) (f, s)) (a.getD low - s - 45) (b.getD low + s + 45) ↔ a.getD low - s - 45 ≤ n ∧ n < b.getD low + s + 45 ∧ (Mem f s n ∧ inS (a, b) n = true) := fun n => by
    rw [mem_numsP, pS, Bool.and_eq_true, inQ_iff]
  generalize numsP (pS (a, b) (f, s)) (a.getD low - s - 45) (b.getD low + s + 45) = S at *
  unfold tightQ
  rw [if_neg hne]
  cases a with
  | none =>
    cases b with
    | none =>
      simp only [Option.getD_none] at me
      have m0 := (me (low + (f - low) % s)).mpr ⟨by have := up_bd hs (f := f) low; omega, by have := up_bd hs (f := f) low; omega, up_mem low, rfl⟩
      exact .inr ⟨fun z => (by rw [z] at m0; cases m0), none, none, rfl, .inl ⟨rfl, rfl⟩, .inl ⟨rfl, rfl⟩⟩
    | some b =>
      simp only [Option.getD_none, Option.getD_some] at me hB
      have m0 := (me (b - (b - f) % s)).mpr ⟨by have := dn_bd hs (f := f) b; omega, by have := dn_bd hs (f := f) b; omega, dn_mem b, by
        have := (dn_bd hs (f := f) b).2
        simp [inS, this]⟩
      obtain ⟨t, ht⟩ := pw_last pw m0 fun m hm => dn_most hs ((me m).mp hm).2.2.1 (by
        have := ((me m).mp hm).2.2.2
        simpa [inS] using this)
      exact .inr ⟨fun z => (by rw [z] at m0; cases m0), none, _, rfl, .inl ⟨rfl, rfl⟩, .inr ⟨b, _, t, rfl, rfl, ht⟩⟩
  | some a =>
    cases b with
    | none =>
      simp only [Option.getD_none, Option.getD_some] at me hB
      have m0 := (me (a + (f - a) % s)).mpr ⟨by have := up_bd hs (f := f) a; omega, by have := up_bd hs (f := f) a; omega, up_mem a, by
        have := (up_bd hs (f := f) a).1
        simp [inS, this]⟩
      obtain ⟨t, ht⟩ := pw_first pw m0 fun m hm => up_least hs ((me m).mp hm).2.2.1 (by
        have := ((me m).mp hm).2.2.2
        simpa [inS] using this)
      exact .inr ⟨fun z => (by rw [z] at m0; cases m0), _, none, rfl, .inr ⟨a, _, t, rfl, rfl, ht⟩, .inl ⟨rfl, rfl⟩⟩
    | some b =>
      simp only [Option.getD_some] at me hB
      have ux := up_bd hs (f := f) a
      have dx := dn_bd hs (f := f) b
      have ins : ∀ m ∈ S, a ≤ m ∧ m ≤ b := fun m hm => by
        have := ((me m).mp hm).2.2.2
        simp [inS] at this
        exact ⟨this.1, this.2⟩
      by_cases e : a + (f - a) % s > b - (b - f) % s
      · refine .inl ⟨?_, by show (if _ then _ else _) = _; rw [if_pos e]⟩
        cases hS : S with
        | nil => rfl
        | cons m t =>
          have hm : m ∈ S := by rw [hS]; exact List.mem_cons_self
          have h1 := up_least hs ((me m).mp hm).2.2.1 (ins m hm).1
          have h2 := dn_most hs ((me m).mp hm).2.2.1 (ins m hm).2
          omega
      · have m0 := (me (a + (f - a) % s)).mpr ⟨by omega, by omega, up_mem a, by
          have h2 : a + (f - a) % s ≤ b := by omega
          simp [inS, ux.1, h2]⟩
        have m1 := (me (b - (b - f) % s)).mpr ⟨by omega, by omega, dn_mem b, by
          have h2 : a ≤ b - (b - f) % s := by omega
          simp [inS, dx.2, h2]⟩
        obtain ⟨t, ht⟩ := pw_first pw m0 fun m hm => up_least hs ((me m).mp hm).2.2.1 (ins m hm).1
        obtain ⟨u, hu⟩ := pw_last pw m1 fun m hm => dn_most hs ((me m).mp hm).2.2.1 (ins m hm).2
        refine .inr ⟨fun z => (by rw [z] at m0; cases m0), _, _, by show (if _ then _ else _) = _; rw [if_neg e], .inr ⟨a, _, t, rfl, rfl, ht⟩, .inr ⟨b, _, u, rfl, rfl, hu⟩⟩
end LW

set_option maxRecDepth 20000
set_option maxHeartbeats 0
namespace LW
open PySem PySem.Spec PyProof.Rows L2 MP RT
theorem okS_eI (n : Nat) (x : Option Int) : okS n (eI x) := by
  cases x <;> cases n <;> exact trivial
theorem okS_t2 {n : Nat} {a b : D} (h : okS n a) (h' : okS n b) : okS (n + 1) (.tuple [a, b]) := ⟨by show 2 ≤ sizeLine; decide, all_cons h (all_cons h' all_nil)⟩
theorem okS_eT (n : Nat) (x : Option (Option Int × Option Int)) : okS (n + 1) (eT x) := by
  cases x with
  | none => exact trivial
  | some s => exact okS_t2 (okS_eI _ _) (okS_eI _ _)
theorem w_some (c0 c2 c3 c5 c6 c7 c8 c9 c10 : Cell) (sp : Option Int × Option Int) (r : Int × Int) (h : 0 ≤ r.2) (ns : List Int) : compL (tgName 11) cc__law_range_right_3 ce__law_range_right_4 [11] (ns.map .int) [c0, .sh (eR r), c2, c3, .sh (eS sp), c5, c6, c7, c8, c9, c10, .no] = some ((ns.filter (pS sp r)).map .int, [c0, .sh (eR r), c2, c3, .sh (eS sp), c5, c6, c7, c8, c9, c10, .no]) := by
  rw [compL_pure (g := fun d => match d with
      | .int i => if pS sp r i = true then some (.int i) else none
      | _ => none) fun d hd => ?_, fm_ints (pS sp r) _ fun _ => rfl]
  obtain ⟨i, _, rfl⟩ := List.mem_map.mp hd
  obtain ⟨a, b⟩ := sp
  rw [cc__law_range_right_3, ce__law_range_right_4]
  cases hq : inQ r.1 r.2 i with
  | false =>
    have hp : pS (a, b) r i = false := by unfold pS; rw [hq]; rfl
    simp only [e_lin r.1 i h, hq, hp, Bool.false_eq_true, if_false, x_seq, x_seq1, x_seq2, x_seq3, x_seq4, x_seq5, x_asg, x_asg1, x_asgF, x_asgF1, x_exp, x_exp1, x_ret, x_ret1, x_retF, x_retF1, x_retN, x_skip, x_brk, x_cnt, x_if, x_if1, x_if2, x_and, x_and1, x_and2, x_or, x_or1, x_or2, x_not, x_not1, x_bool, x_bool1, x_andV, x_andV1, x_andV2, x_orV, x_orV1, x_orV2, x_notV, x_notV1, x_ifV, x_ifV1, x_ifV2, x_cE, x_nm, x_nm1, x_nm2, x_rd, x_rd1, x_rd2, x_rd3, x_ev0, x_ev, x_ev1, x_ev2, x_pk, x_pk1, x_pk2, x_pk3, x_vv0, x_vv, x_vv1, x_op, x_op1, x_op2, x_ca, x_ck, x_ci, x_ci0, x_ci1, x_ci2, x_ci3, x_ci4, x_ci5, x_tup, x_tup1, x_lst, x_lst1, x_ch, x_ch1, x_ch2, x_ch3, x_ch4, x_ch5, x_asgT, x_asgT1, x_nx, x_par, x_par1, x_par2, x_par3, x_par31, x_par32, x_par33, x_tn, x_t0, x_tc, x_ts, x_ts0, x_ts1, x_up1, x_up2, x_upO, x_upI, x_app, x_app0, x_app1, x_for, x_for1, x_fl1, x_fl2, x_fl3, x_fl4, x_fl5, x_fl6, x_turn, x_its, x_its1, x_its2, x_its3, x_rg1, x_rg2, x_rg21, x_en, x_en1, x_zp, x_zp1, x_zp2, x_zp3, x_st, x_st0, x_st1, x_st2, x_st3, x_yes, x_lc2, x_rA1, x_rA2, x_rF1, x_rI1, x_rI2, x_wh1, x_wh2, x_wh3, x_wh4, x_wh5, o_add, o_sub, o_neg, o_lt, o_le, o_gt, o_ge, o_eq, o_ne, o_eqB, o_neB, o_int, o_abs, o_max, o_min, o_lenL, o_lenT, o_ix0, o_ix1, o_ixl0, o_ixl1, o_ixl2, o_isi, o_isi2, o_isN, o_notN, o_isB, o_notB, x_A0, x_F0, x_I0, x_A1, x_F1, x_I1, x_A2, x_F2, x_I2, x_A3, x_F3, x_I3, x_A4, x_F4, x_I4, x_A5, x_F5, x_I5, x_A6, x_F6, x_I6, x_A7, x_F7, x_I7, x_A8, x_F8, x_I8, x_wi0, x_wi, x_re0, x_re, x_re1, x_ok0, x_ok, x_ok1, x_ok2, o_not0, x_g0, x_gS, x_s0, x_sS, x_bs, x_bn, x_ms, x_isNnone, x_isNbool, x_isNint, x_isNstr, x_isNlist, x_isNtuple, x_isNdict, x_tyintnone, x_tyintbool, x_tyintint, x_tyintstr, x_tyintlist, x_tyinttuple, x_tyintdict, x_tyboolnone, x_tyboolbool, x_tyboolint, x_tyboolstr, x_tyboollist, x_tybooltuple, x_tybooldict, x_tystrnone, x_tystrbool, x_tystrint, x_tystrstr, x_tystrlist, x_tystrtuple, x_tystrdict, x_tytupnone, x_tytupbool, x_tytupint, x_tytupstr, x_tytuplist, x_tytuptuple, x_tytupdict, x_tylstnone, x_tylstbool, x_tylstint, x_tylststr, x_tylstlist, x_tylsttuple, x_tylstdict, x_tydctnone, x_tydctbool, x_tydctint, x_tydctstr, x_tydctlist, x_tydcttuple, x_tydctdict, x_be0, x_bn0, x_be1, x_bn1, x_be2, x_bn2, x_be3, x_bn3, List.length_cons, List.length_nil, List.map_cons, List.map_nil, List.replicate, List.cons_append, List.nil_append, List.append_nil, startE, pick, List.filterMap_cons, List.filterMap_nil, Bool.or_false, Bool.false_or, Bool.or_true, Bool.true_or, Bool.and_true, Bool.true_and, Bool.and_false, Bool.false_and, Bool.not_true, Bool.not_false, Bool.not_not, decide_true, decide_false, Int.cast_ofNat_Int, Nat.reduceAdd, Nat.zero_add, Int.reduceEq, Int.reduceLT, Int.reduceLE, Int.reduceGT, Int.reduceGE, Int.reduceAdd, Int.reduceSub, Int.reduceMul, Int.reduceNeg, Int.reducePow, Int.reduceToNat]
  | true =>
    have hp : pS (a, b) r i = inS (a, b) i := by unfold pS; rw [hq]; rfl
    cases a with
    | none => cases b with
      | none => simp only [e_lin r.1 i h, hq, hp, inS, eI_n, if_true, x_seq, x_seq1, x_seq2, x_seq3, x_seq4, x_seq5, x_asg, x_asg1, x_asgF, x_asgF1, x_exp, x_exp1, x_ret, x_ret1, x_retF, x_retF1, x_retN, x_skip, x_brk, x_cnt, x_if, x_if1, x_if2, x_and, x_and1, x_and2, x_or, x_or1, x_or2, x_not, x_not1, x_bool, x_bool1, x_andV, x_andV1, x_andV2, x_orV, x_orV1, x_orV2, x_notV, x_notV1, x_ifV, x_ifV1, x_ifV2, x_cE, x_nm, x_nm1, x_nm2, x_rd, x_rd1, x_rd2, x_rd3, x_ev0, x_ev, x_ev1, x_ev2, x_pk, x_pk1, x_pk2, x_pk3, x_vv0, x_vv, x_vv1, x_op, x_op1, x_op2, x_ca, x_ck, x_ci, x_ci0, x_ci1, x_ci2, x_ci3, x_ci4, x_ci5, x_tup, x_tup1, x_lst, x_lst1, x_ch, x_ch1, x_ch2, x_ch3, x_ch4, x_ch5, x_asgT, x_asgT1, x_nx, x_par, x_par1, x_par2, x_par3, x_par31, x_par32, x_par33, x_tn, x_t0, x_tc, x_ts, x_ts0, x_ts1, x_up1, x_up2, x_upO, x_upI, x_app, x_app0, x_app1, x_for, x_for1, x_fl1, x_fl2, x_fl3, x_fl4, x_fl5, x_fl6, x_turn, x_its, x_its1, x_its2, x_its3, x_rg1, x_rg2, x_rg21, x_en, x_en1, x_zp, x_zp1, x_zp2, x_zp3, x_st, x_st0, x_st1, x_st2, x_st3, x_yes, x_lc2, x_rA1, x_rA2, x_rF1, x_rI1, x_rI2, x_wh1, x_wh2, x_wh3, x_wh4, x_wh5, o_add, o_sub, o_neg, o_lt, o_le, o_gt, o_ge, o_eq, o_ne, o_eqB, o_neB, o_int, o_abs, o_max, o_min, o_lenL, o_lenT, o_ix0, o_ix1, o_ixl0, o_ixl1, o_ixl2, o_isi, o_isi2, o_isN, o_notN, o_isB, o_notB, x_A0, x_F0, x_I0, x_A1, x_F1, x_I1, x_A2, x_F2, x_I2, x_A3, x_F3, x_I3, x_A4, x_F4, x_I4, x_A5, x_F5, x_I5, x_A6, x_F6, x_I6, x_A7, x_F7, x_I7, x_A8, x_F8, x_I8, x_wi0, x_wi, x_re0, x_re, x_re1, x_ok0, x_ok, x_ok1, x_ok2, o_not0, x_g0, x_gS, x_s0, x_sS, x_bs, x_bn, x_ms, x_isNnone, x_isNbool, x_isNint, x_isNstr, x_isNlist, x_isNtuple, x_isNdict, x_tyintnone, x_tyintbool, x_tyintint, x_tyintstr, x_tyintlist, x_tyinttuple, x_tyintdict, x_tyboolnone, x_tyboolbool, x_tyboolint, x_tyboolstr, x_tyboollist, x_tybooltuple, x_tybooldict, x_tystrnone, x_tystrbool, x_tystrint, x_tystrstr, x_tystrlist, x_tystrtuple, x_tystrdict, x_tytupnone, x_tytupbool, x_tytupint, x_tytupstr, x_tytuplist, x_tytuptuple, x_tytupdict, x_tylstnone, x_tylstbool, x_tylstint, x_tylststr, x_tylstlist, x_tylsttuple, x_tylstdict, x_tydctnone, x_tydctbool, x_tydctint, x_tydctstr, x_tydctlist, x_tydcttuple, x_tydctdict, x_be0, x_bn0, x_be1, x_bn1, x_be2, x_bn2, x_be3, x_bn3, List.length_cons, List.length_nil, List.map_cons, List.map_nil, List.replicate, List.cons_append, List.nil_append, List.append_nil, startE, pick, List.filterMap_cons, List.filterMap_nil, Bool.or_false, Bool.false_or, Bool.or_true, Bool.true_or, Bool.and_true, Bool.true_and, Bool.and_false, Bool.false_and, Bool.not_true, Bool.not_false, Bool.not_not, decide_true, decide_false, Int.cast_ofNat_Int, Nat.reduceAdd, Nat.zero_add, Int.reduceEq, Int.reduceLT, Int.reduceLE, Int.reduceGT, Int.reduceGE, Int.reduceAdd, Int.reduceSub, Int.reduceMul, Int.reduceNeg, Int.reducePow, Int.reduceToNat]
      | some b => by_cases hb : i ≤ b <;> simp only [e_lin r.1 i h, hq, hp, inS, eI_n, eI_s, hb, if_true, Bool.false_eq_true, if_false, x_seq, x_seq1, x_seq2, x_seq3, x_seq4, x_seq5, x_asg, x_asg1, x_asgF, x_asgF1, x_exp, x_exp1, x_ret, x_ret1, x_retF, x_retF1, x_retN, x_skip, x_brk, x_cnt, x_if, x_if1, x_if2, x_and, x_and1, x_and2, x_or, x_or1, x_or2, x_not, x_not1, x_bool, x_bool1, x_andV, x_andV1, x_andV2, x_orV, x_orV1, x_orV2, x_notV, x_notV1, x_ifV, x_ifV1, x_ifV2, x_cE, x_nm, x_nm1, x_nm2, x_rd, x_rd1, x_rd2, x_rd3, x_ev0, x_ev, x_ev1, x_ev2, x_pk, x_pk1, x_pk2, x_pk3, x_vv0, x_vv, x_vv1, x_op, x_op1, x_op2, x_ca, x_ck, x_ci, x_ci0, x_ci1, x_ci2, x_ci3, x_ci4, x_ci5, x_tup, x_tup1, x_lst, x_lst1, x_ch, x_ch1, x_ch2, x_ch3, x_ch4, x_ch5, x_asgT, x_asgT1, x_nx, x_par, x_par1, x_par2, x_par3, x_par31, x_par32, x_par33, x_tn, x_t0, x_tc, x_ts, x_ts0, x_ts1, x_up1, x_up2, x_upO, x_upI, x_app, x_app0, x_app1, x_for, x_for1, x_fl1, x_fl2, x_fl3, x_fl4, x_fl5, x_fl6, x_turn, x_its, x_its1, x_its2, x_its3, x_rg1, x_rg2, x_rg21, x_en, x_en1, x_zp, x_zp1, x_zp2, x_zp3, x_st, x_st0, x_st1, x_st2, x_st3, x_yes, x_lc2, x_rA1, x_rA2, x_rF1, x_rI1, x_rI2, x_wh1, x_wh2, x_wh3, x_wh4, x_wh5, o_add, o_sub, o_neg, o_lt, o_le, o_gt, o_ge, o_eq, o_ne, o_eqB, o_neB, o_int, o_abs, o_max, o_min, o_lenL, o_lenT, o_ix0, o_ix1, o_ixl0, o_ixl1, o_ixl2, o_isi, o_isi2, o_isN, o_notN, o_isB, o_notB, x_A0, x_F0, x_I0, x_A1, x_F1, x_I1, x_A2, x_F2, x_I2, x_A3, x_F3, x_I3, x_A4, x_F4, x_I4, x_A5, x_F5, x_I5, x_A6, x_F6, x_I6, x_A7, x_F7, x_I7, x_A8, x_F8, x_I8, x_wi0, x_wi, x_re0, x_re, x_re1, x_ok0, x_ok, x_ok1, x_ok2, o_not0, x_g0, x_gS, x_s0, x_sS, x_bs, x_bn, x_ms, x_isNnone, x_isNbool, x_isNint, x_isNstr, x_isNlist, x_isNtuple, x_isNdict, x_tyintnone, x_tyintbool, x_tyintint, x_tyintstr, x_tyintlist, x_tyinttuple, x_tyintdict, x_tyboolnone, x_tyboolbool, x_tyboolint, x_tyboolstr, x_tyboollist, x_tybooltuple, x_tybooldict, x_tystrnone, x_tystrbool, x_tystrint, x_tystrstr, x_tystrlist, x_tystrtuple, x_tystrdict, x_tytupnone, x_tytupbool, x_tytupint, x_tytupstr, x_tytuplist, x_tytuptuple, x_tytupdict, x_tylstnone, x_tylstbool, x_tylstint, x_tylststr, x_tylstlist, x_tylsttuple, x_tylstdict, x_tydctnone, x_tydctbool, x_tydctint, x_tydctstr, x_tydctlist, x_tydcttuple, x_tydctdict, x_be0, x_bn0, x_be1, x_bn1, x_be2, x_bn2, x_be3, x_bn3, List.length_cons, List.length_nil, List.map_cons, List.map_nil, List.replicate, List.cons_append, List.nil_append, List.append_nil, startE, pick, List.filterMap_cons, List.filterMap_nil, Bool.or_false, Bool.false_or, Bool.or_true, Bool.true_or, Bool.and_true, Bool.true_and, Bool.and_false, Bool.false_and, Bool.not_true, Bool.not_false, Bool.not_not, decide_true, decide_false, Int.cast_ofNat_Int, Nat.reduceAdd, Nat.zero_add, Int.reduceEq, Int.reduceLT, Int.reduceLE, Int.reduceGT, Int.reduceGE, Int.reduceAdd, Int.reduceSub, Int.reduceMul, Int.reduceNeg, Int.reducePow, Int.reduceToNat]
    | some a => cases b with
      | none => by_cases ha : i ≥ a <;> simp only [e_lin r.1 i h, hq, hp, inS, eI_n, eI_s, ha, if_true, Bool.false_eq_true, if_false, x_seq, x_seq1, x_seq2, x_seq3, x_seq4, x_seq5, x_asg, x_asg1, x_asgF, x_asgF1, x_exp, x_exp1, x_ret, x_ret1, x_retF, x_retF1, x_retN, x_skip, x_brk, x_cnt, x_if, x_if1, x_if2, x_and, x_and1, x_and2, x_or, x_or1, x_or2, x_not, x_not1, x_bool, x_bool1, x_andV, x_andV1, x_andV2, x_orV, x_orV1, x_orV2, x_notV, x_notV1, x_ifV, x_ifV1, x_ifV2, x_cE, x_nm, x_nm1, x_nm2, x_rd, x_rd1, x_rd2, x_rd3, x_ev0, x_ev, x_ev1, x_ev2, x_pk, x_pk1, x_pk2, x_pk3, x_vv0, x_vv, x_vv1, x_op, x_op1, x_op2, x_ca, x_ck, x_ci, x_ci0, x_ci1, x_ci2, x_ci3, x_ci4, x_ci5, x_tup, x_tup1, x_lst, x_lst1, x_ch, x_ch1, x_ch2, x_ch3, x_ch4, x_ch5, x_asgT, x_asgT1, x_nx, x_par, x_par1, x_par2, x_par3, x_par31, x_par32, x_par33, x_tn, x_t0, x_tc, x_ts, x_ts0, x_ts1, x_up1, x_up2, x_upO, x_upI, x_app, x_app0, x_app1, x_for, x_for1, x_fl1, x_fl2, x_fl3, x_fl4, x_fl5, x_fl6, x_turn, x_its, x_its1, x_its2, x_its3, x_rg1, x_rg2, x_rg21, x_en, x_en1, x_zp, x_zp1, x_zp2, x_zp3, x_st, x_st0, x_st1, x_st2, x_st3, x_yes, x_lc2, x_rA1, x_rA2, x_rF1, x_rI1, x_rI2, x_wh1, x_wh2, x_wh3, x_wh4, x_wh5, o_add, o_sub, o_neg, o_lt, o_le, o_gt, o_ge, o_eq, o_ne, o_eqB, o_neB, o_int, o_abs, o_max, o_min, o_lenL, o_lenT, o_ix0, o_ix1, o_ixl0, o_ixl1, o_ixl2, o_isi, o_isi2, o_isN, o_notN, o_isB, o_notB, x_A0, x_F0, x_I0, x_A1, x_F1, x_I1, x_A2, x_F2, x_I2, x_A3, x_F3, x_I3, x_A4, x_F4, x_I4, x_A5, x_F5, x_I5, x_A6, x_F6, x_I6, x_A7, x_F7, x_I7, x_A8, x_F8, x_I8, x_wi0, x_wi, x_re0, x_re, x_re1, x_ok0, x_ok, x_ok1, x_ok2, o_not0, x_g0, x_gS, x_s0, x_sS, x_bs, x_bn, x_ms, x_isNnone, x_isNbool, x_isNint, x_isNstr, x_isNlist, x_isNtuple, x_isNdict, x_tyintnone, x_tyintbool, x_tyintint, x_tyintstr, x_tyintlist, x_tyinttuple, x_tyintdict, x_tyboolnone, x_tyboolbool, x_tyboolint, x_tyboolstr, x_tyboollist, x_tybooltuple, x_tybooldict, x_tystrnone, x_tystrbool, x_tystrint, x_tystrstr, x_tystrlist, x_tystrtuple, x_tystrdict, x_tytupnone, x_tytupbool, x_tytupint, x_tytupstr, x_tytuplist, x_tytuptuple, x_tytupdict, x_tylstnone, x_tylstbool, x_tylstint, x_tylststr, x_tylstlist, x_tylsttuple, x_tylstdict, x_tydctnone, x_tydctbool, x_tydctint, x_tydctstr, x_tydctlist, x_tydcttuple, x_tydctdict, x_be0, x_bn0, x_be1, x_bn1, x_be2, x_bn2, x_be3, x_bn3, List.length_cons, List.length_nil, List.map_cons, List.map_nil, List.replicate, List.cons_append, List.nil_append, List.append_nil, startE, pick, List.filterMap_cons, List.filterMap_nil, Bool.or_false, Bool.false_or, Bool.or_true, Bool.true_or, Bool.and_true, Bool.true_and, Bool.and_false, Bool.false_and, Bool.not_true, Bool.not_false, Bool.not_not, decide_true, decide_false, Int.cast_ofNat_Int, Nat.reduceAdd, Nat.zero_add, Int.reduceEq, Int.reduceLT, Int.reduceLE, Int.reduceGT, Int.reduceGE, Int.reduceAdd, Int.reduceSub, Int.reduceMul, Int.reduceNeg, Int.reducePow, Int.reduceToNat]
      | some b => by_cases ha : i ≥ a <;> by_cases hb : i ≤ b <;> simp only [e_lin r.1 i h, hq, hp, inS, eI_n, eI_s, ha, hb, if_true, Bool.false_eq_true, if_false, x_seq, x_seq1, x_seq2, x_seq3, x_seq4, x_seq5, x_asg, x_asg1, x_asgF, x_asgF1, x_exp, x_exp1, x_ret, x_ret1, x_retF, x_retF1, x_retN, x_skip, x_brk, x_cnt, x_if, x_if1, x_if2, x_and, x_and1, x_and2, x_or, x_or1, x_or2, x_not, x_not1, x_bool, x_bool1, x_andV, x_andV1, x_andV2, x_orV, x_orV1, x_orV2, x_notV, x_notV1, x_ifV, x_ifV1, x_ifV2, x_cE, x_nm, x_nm1, x_nm2, x_rd, x_rd1, x_rd2, x_rd3, x_ev0, x_ev, x_ev1, x_ev2, x_pk, x_pk1, x_pk2, x_pk3, x_vv0, x_vv, x_vv1, x_op, x_op1, x_op2, x_ca, x_ck, x_ci, x_ci0, x_ci1, x_ci2, x_ci3, x_ci4, x_ci5, x_tup, x_tup1, x_lst, x_lst1, x_ch, x_ch1, x_ch2, x_ch3, x_ch4, x_ch5, x_asgT, x_asgT1, x_nx, x_par, x_par1, x_par2, x_par3, x_par31, x_par32, x_par33, x_tn, x_t0, x_tc, x_ts, x_ts0, x_ts1, x_up1, x_up2, x_upO, x_upI, x_app, x_app0, x_app1, x_for, x_for1, x_fl1, x_fl2, x_fl3, x_fl4, x_fl5, x_fl6, x_turn, x_its, x_its1, x_its2, x_its3, x_rg1, x_rg2, x_rg21, x_en, x_en1, x_zp, x_zp1, x_zp2, x_zp3, x_st, x_st0, x_st1, x_st2, x_st3, x_yes, x_lc2, x_rA1, x_rA2, x_rF1, x_rI1, x_rI2, x_wh1, x_wh2, x_wh3, x_wh4, x_wh5, o_add, o_sub, o_neg, o_lt, o_le, o_gt, o_ge, o_eq, o_ne, o_eqB, o_neB, o_int, o_abs, o_max, o_min, o_lenL, o_lenT, o_ix0, o_ix1, o_ixl0, o_ixl1, o_ixl2, o_isi, o_isi2, o_isN, o_notN, o_isB, o_notB, x_A0, x_F0, x_I0, x_A1, x_F1, x_I1, x_A2, x_F2, x_I2, x_A3, x_F3, x_I3, x_A4, x_F4, x_I4, x_A5, x_F5, x_I5, x_A6, x_F6, x_I6, x_A7, x_F7, x_I7, x_A8, x_F8, x_I8, x_wi0, x_wi, x_re0, x_re, x_re1, x_ok0, x_ok, x_ok1, x_ok2, o_not0, x_g0, x_gS, x_s0, x_sS, x_bs, x_bn, x_ms, x_isNnone, x_isNbool, x_isNint, x_isNstr, x_isNlist, x_isNtuple, x_isNdict, x_tyintnone, x_tyintbool, x_tyintint, x_tyintstr, x_tyintlist, x_tyinttuple, x_tyintdict, x_tyboolnone, x_tyboolbool, x_tyboolint, x_tyboolstr, x_tyboollist, x_tybooltuple, x_tybooldict, x_tystrnone, x_tystrbool, x_tystrint, x_tystrstr, x_tystrlist, x_tystrtuple, x_tystrdict, x_tytupnone, x_tytupbool, x_tytupint, x_tytupstr, x_tytuplist, x_tytuptuple, x_tytupdict, x_tylstnone, x_tylstbool, x_tylstint, x_tylststr, x_tylstlist, x_tylsttuple, x_tylstdict, x_tydctnone, x_tydctbool, x_tydctint, x_tydctstr, x_tydctlist, x_tydcttuple, x_tydctdict, x_be0, x_bn0, x_be1, x_bn1, x_be2, x_bn2, x_be3, x_bn3, List.length_cons, List.length_nil, List.map_cons, List.map_nil, List.replicate, List.cons_append, List.nil_append, List.append_nil, startE, pick, List.filterMap_cons, List.filterMap_nil, Bool.or_false, Bool.false_or, Bool.or_true, Bool.true_or, Bool.and_true, Bool.true_and, Bool.and_false, Bool.false_and, Bool.not_true, Bool.not_false, Bool.not_not, decide_true, decide_false, Int.cast_ofNat_Int, Nat.reduceAdd, Nat.zero_add, Int.reduceEq, Int.reduceLT, Int.reduceLE, Int.reduceGT, Int.reduceGE, Int.reduceAdd, Int.reduceSub, Int.reduceMul, Int.reduceNeg, Int.reducePow, Int.reduceToNat]
section
variable (c0 c2 c5 c6 c7 c8 c9 c10 : Cell) (sp : Option Int × Option Int) (r : Int × Int) (low : Int)
theorem r_lo : (ifV (boolT (opN isND [.v (opN ixD [.p 4, .v (cE (.int 0))]), .v (cE .none)])) (nameV 3) (opN ixD [.p 4, .v (cE (.int 0))])) [c0, .sh (eR r), c2, .sh (.int low), .sh (eS sp), c5, c6, c7, c8, c9, c10, .no] = some (.int (sp.1.getD low), [c0, .sh (eR r), c2, .sh (.int low), .sh (eS sp), c5, c6, c7, c8, c9, c10, .no]) := by
  obtain ⟨a, b⟩ := sp
  cases a with
  | none => simp only [eI_n, Option.getD_none, x_seq, x_seq1, x_seq2, x_seq3, x_seq4, x_seq5, x_asg, x_asg1, x_asgF, x_asgF1, x_exp, x_exp1, x_ret, x_ret1, x_retF, x_retF1, x_retN, x_skip, x_brk, x_cnt, x_if, x_if1, x_if2, x_and, x_and1, x_and2, x_or, x_or1, x_or2, x_not, x_not1, x_bool, x_bool1, x_andV, x_andV1, x_andV2, x_orV, x_orV1, x_orV2, x_notV, x_notV1, x_ifV, x_ifV1, x_ifV2, x_cE, x_nm, x_nm1, x_nm2, x_rd, x_rd1, x_rd2, x_rd3, x_ev0, x_ev, x_ev1, x_ev2, x_pk, x_pk1, x_pk2, x_pk3, x_vv0, x_vv, x_vv1, x_op, x_op1, x_op2, x_ca, x_ck, x_ci, x_ci0, x_ci1, x_ci2, x_ci3, x_ci4, x_ci5, x_tup, x_tup1, x_lst, x_lst1, x_ch, x_ch1, x_ch2, x_ch3, x_ch4, x_ch5, x_asgT, x_asgT1, x_nx, x_par, x_par1, x_par2, x_par3, x_par31, x_par32, x_par33, x_tn, x_t0, x_tc, x_ts, x_ts0, x_ts1, x_up1, x_up2, x_upO, x_upI, x_app, x_app0, x_app1, x_for, x_for1, x_fl1, x_fl2, x_fl3, x_fl4, x_fl5, x_fl6, x_turn, x_its, x_its1, x_its2, x_its3, x_rg1, x_rg2, x_rg21, x_en, x_en1, x_zp, x_zp1, x_zp2, x_zp3, x_st, x_st0, x_st1, x_st2, x_st3, x_yes, x_lc2, x_rA1, x_rA2, x_rF1, x_rI1, x_rI2, x_wh1, x_wh2, x_wh3, x_wh4, x_wh5, o_add, o_sub, o_neg, o_lt, o_le, o_gt, o_ge, o_eq, o_ne, o_eqB, o_neB, o_int, o_abs, o_max, o_min, o_lenL, o_lenT, o_ix0, o_ix1, o_ixl0, o_ixl1, o_ixl2, o_isi, o_isi2, o_isN, o_notN, o_isB, o_notB, x_A0, x_F0, x_I0, x_A1, x_F1, x_I1, x_A2, x_F2, x_I2, x_A3, x_F3, x_I3, x_A4, x_F4, x_I4, x_A5, x_F5, x_I5, x_A6, x_F6, x_I6, x_A7, x_F7, x_I7, x_A8, x_F8, x_I8, x_wi0, x_wi, x_re0, x_re, x_re1, x_ok0, x_ok, x_ok1, x_ok2, o_not0, x_g0, x_gS, x_s0, x_sS, x_bs, x_bn, x_ms, x_isNnone, x_isNbool, x_isNint, x_isNstr, x_isNlist, x_isNtuple, x_isNdict, x_tyintnone, x_tyintbool, x_tyintint, x_tyintstr, x_tyintlist, x_tyinttuple, x_tyintdict, x_tyboolnone, x_tyboolbool, x_tyboolint, x_tyboolstr, x_tyboollist, x_tybooltuple, x_tybooldict, x_tystrnone, x_tystrbool, x_tystrint, x_tystrstr, x_tystrlist, x_tystrtuple, x_tystrdict, x_tytupnone, x_tytupbool, x_tytupint, x_tytupstr, x_tytuplist, x_tytuptuple, x_tytupdict, x_tylstnone, x_tylstbool, x_tylstint, x_tylststr, x_tylstlist, x_tylsttuple, x_tylstdict, x_tydctnone, x_tydctbool, x_tydctint, x_tydctstr, x_tydctlist, x_tydcttuple, x_tydctdict, x_be0, x_bn0, x_be1, x_bn1, x_be2, x_bn2, x_be3, x_bn3, List.length_cons, List.length_nil, List.map_cons, List.map_nil, List.replicate, List.cons_append, List.nil_append, List.append_nil, startE, pick, List.filterMap_cons, List.filterMap_nil, Bool.or_false, Bool.false_or, Bool.or_true, Bool.true_or, Bool.and_true, Bool.true_and, Bool.and_false, Bool.false_and, Bool.not_true, Bool.not_false, Bool.not_not, decide_true, decide_false, Int.cast_ofNat_Int, Nat.reduceAdd, Nat.zero_add, Int.reduceEq, Int.reduceLT, Int.reduceLE, Int.reduceGT, Int.reduceGE, Int.reduceAdd, Int.reduceSub, Int.reduceMul, Int.reduceNeg, Int.reducePow, Int.reduceToNat]
  | some a => simp only [eI_s, Option.getD_some, x_seq, x_seq1, x_seq2, x_seq3, x_seq4, x_seq5, x_asg, x_asg1, x_asgF, x_asgF1, x_exp, x_exp1, x_ret, x_ret1, x_retF, x_retF1, x_retN, x_skip, x_brk, x_cnt, x_if, x_if1, x_if2, x_and, x_and1, x_and2, x_or, x_or1, x_or2, x_not, x_not1, x_bool, x_bool1, x_andV, x_andV1, x_andV2, x_orV, x_orV1, x_orV2, x_notV, x_notV1, x_ifV, x_ifV1, x_ifV2, x_cE, x_nm, x_nm1, x_nm2, x_rd, x_rd1, x_rd2, x_rd3, x_ev0, x_ev, x_ev1, x_ev2, x_pk, x_pk1, x_pk2, x_pk3, x_vv0, x_vv, x_vv1, x_op, x_op1, x_op2, x_ca, x_ck, x_ci, x_ci0, x_ci1, x_ci2, x_ci3, x_ci4, x_ci5, x_tup, x_tup1, x_lst, x_lst1, x_ch, x_ch1, x_ch2, x_ch3, x_ch4, x_ch5, x_asgT, x_asgT1, x_nx, x_par, x_par1, x_par2, x_par3, x_par31, x_par32, x_par33, x_tn, x_t0, x_tc, x_ts, x_ts0, x_ts1, x_up1, x_up2, x_upO, x_upI, x_app, x_app0, x_app1, x_for, x_for1, x_fl1, x_fl2, x_fl3, x_fl4, x_fl5, x_fl6, x_turn, x_its, x_its1, x_its2, x_its3, x_rg1, x_rg2, x_rg21, x_en, x_en1, x_zp, x_zp1, x_zp2, x_zp3, x_st, x_st0, x_st1, x_st2, x_st3, x_yes, x_lc2, x_rA1, x_rA2, x_rF1, x_rI1, x_rI2, x_wh1, x_wh2, x_wh3, x_wh4, x_wh5, o_add, o_sub, o_neg, o_lt, o_le, o_gt, o_ge, o_eq, o_ne, o_eqB, o_neB, o_int, o_abs, o_max, o_min, o_lenL, o_lenT, o_ix0, o_ix1, o_ixl0, o_ixl1, o_ixl2, o_isi, o_isi2, o_isN, o_notN, o_isB, o_notB, x_A0, x_F0, x_I0, x_A1, x_F1, x_I1, x_A2, x_F2, x_I2, x_A3, x_F3, x_I3, x_A4, x_F4, x_I4, x_A5, x_F5, x_I5, x_A6, x_F6, x_I6, x_A7, x_F7, x_I7, x_A8, x_F8, x_I8, x_wi0, x_wi, x_re0, x_re, x_re1, x_ok0, x_ok, x_ok1, x_ok2, o_not0, x_g0, x_gS, x_s0, x_sS, x_bs, x_bn, x_ms, x_isNnone, x_isNbool, x_isNint, x_isNstr, x_isNlist, x_isNtuple, x_isNdict, x_tyintnone, x_tyintbool, x_tyintint, x_tyintstr, x_tyintlist, x_tyinttuple, x_tyintdict, x_tyboolnone, x_tyboolbool, x_tyboolint, x_tyboolstr, x_tyboollist, x_tybooltuple, x_tybooldict, x_tystrnone, x_tystrbool, x_tystrint, x_tystrstr, x_tystrlist, x_tystrtuple, x_tystrdict, x_tytupnone, x_tytupbool, x_tytupint, x_tytupstr, x_tytuplist, x_tytuptuple, x_tytupdict, x_tylstnone, x_tylstbool, x_tylstint, x_tylststr, x_tylstlist, x_tylsttuple, x_tylstdict, x_tydctnone, x_tydctbool, x_tydctint, x_tydctstr, x_tydctlist, x_tydcttuple, x_tydctdict, x_be0, x_bn0, x_be1, x_bn1, x_be2, x_bn2, x_be3, x_bn3, List.length_cons, List.length_nil, List.map_cons, List.map_nil, List.replicate, List.cons_append, List.nil_append, List.append_nil, startE, pick, List.filterMap_cons, List.filterMap_nil, Bool.or_false, Bool.false_or, Bool.or_true, Bool.true_or, Bool.and_true, Bool.true_and, Bool.and_false, Bool.false_and, Bool.not_true, Bool.not_false, Bool.not_not, decide_true, decide_false, Int.cast_ofNat_Int, Nat.reduceAdd, Nat.zero_add, Int.reduceEq, Int.reduceLT, Int.reduceLE, Int.reduceGT, Int.reduceGE, Int.reduceAdd, Int.reduceSub, Int.reduceMul, Int.reduceNeg, Int.reducePow, Int.reduceToNat]
theorem r_hi : (ifV (boolT (opN isND [.v (opN ixD [.p 4, .v (cE (.int 1))]), .v (cE .none)])) (nameV 3) (opN ixD [.p 4, .v (cE (.int 1))])) [c0, .sh (eR r), c2, .sh (.int low), .sh (eS sp), c5, c6, c7, c8, c9, c10, .no] = some (.int (sp.2.getD low), [c0, .sh (eR r), c2, .sh (.int low), .sh (eS sp), c5, c6, c7, c8, c9, c10, .no]) := by
  obtain ⟨a, b⟩ := sp
  cases b with
  | none => simp only [eI_n, Option.getD_none, x_seq, x_seq1, x_seq2, x_seq3, x_seq4, x_seq5, x_asg, x_asg1, x_asgF, x_asgF1, x_exp, x_exp1, x_ret, x_ret1, x_retF, x_retF1, x_retN, x_skip, x_brk, x_cnt, x_if, x_if1, x_if2, x_and, x_and1, x_and2, x_or, x_or1, x_or2, x_not, x_not1, x_bool, x_bool1, x_andV, x_andV1, x_andV2, x_orV, x_orV1, x_orV2, x_notV, x_notV1, x_ifV, x_ifV1, x_ifV2, x_cE, x_nm, x_nm1, x_nm2, x_rd, x_rd1, x_rd2, x_rd3, x_ev0, x_ev, x_ev1, x_ev2, x_pk, x_pk1, x_pk2, x_pk3, x_vv0, x_vv, x_vv1, x_op, x_op1, x_op2, x_ca, x_ck, x_ci, x_ci0, x_ci1, x_ci2, x_ci3, x_ci4, x_ci5, x_tup, x_tup1, x_lst, x_lst1, x_ch, x_ch1, x_ch2, x_ch3, x_ch4, x_ch5, x_asgT, x_asgT1, x_nx, x_par, x_par1, x_par2, x_par3, x_par31, x_par32, x_par33, x_tn, x_t0, x_tc, x_ts, x_ts0, x_ts1, x_up1, x_up2, x_upO, x_upI, x_app, x_app0, x_app1, x_for, x_for1, x_fl1, x_fl2, x_fl3, x_fl4, x_fl5, x_fl6, x_turn, x_its, x_its1, x_its2, x_its3, x_rg1, x_rg2, x_rg21, x_en, x_en1, x_zp, x_zp1, x_zp2, x_zp3, x_st, x_st0, x_st1, x_st2, x_st3, x_yes, x_lc2, x_rA1, x_rA2, x_rF1, x_rI1, x_rI2, x_wh1, x_wh2, x_wh3, x_wh4, x_wh5, o_add, o_sub, o_neg, o_lt, o_le, o_gt, o_ge, o_eq, o_ne, o_eqB, o_neB, o_int, o_abs, o_max, o_min, o_lenL, o_lenT, o_ix0, o_ix1, o_ixl0, o_ixl1, o_ixl2, o_isi, o_isi2, o_isN, o_notN, o_isB, o_notB, x_A0, x_F0, x_I0, x_A1, x_F1, x_I1, x_A2, x_F2, x_I2, x_A3, x_F3, x_I3, x_A4, x_F4, x_I4, x_A5, x_F5, x_I5, x_A6, x_F6, x_I6, x_A7, x_F7, x_I7, x_A8, x_F8, x_I8, x_wi0, x_wi, x_re0, x_re, x_re1, x_ok0, x_ok, x_ok1, x_ok2, o_not0, x_g0, x_gS, x_s0, x_sS, x_bs, x_bn, x_ms, x_isNnone, x_isNbool, x_isNint, x_isNstr, x_isNlist, x_isNtuple, x_isNdict, x_tyintnone, x_tyintbool, x_tyintint, x_tyintstr, x_tyintlist, x_tyinttuple, x_tyintdict, x_tyboolnone, x_tyboolbool, x_tyboolint, x_tyboolstr, x_tyboollist, x_tybooltuple, x_tybooldict, x_tystrnone, x_tystrbool, x_tystrint, x_tystrstr, x_tystrlist, x_tystrtuple, x_tystrdict, x_tytupnone, x_tytupbool, x_tytupint, x_tytupstr, x_tytuplist, x_tytuptuple, x_tytupdict, x_tylstnone, x_tylstbool, x_tylstint, x_tylststr, x_tylstlist, x_tylsttuple, x_tylstdict, x_tydctnone, x_tydctbool, x_tydctint, x_tydctstr, x_tydctlist, x_tydcttuple, x_tydctdict, x_be0, x_bn0, x_be1, x_bn1, x_be2, x_bn2, x_be3, x_bn3, List.length_cons, List.length_nil, List.map_cons, List.map_nil, List.replicate, List.cons_append, List.nil_append, List.append_nil, startE, pick, List.filterMap_cons, List.filterMap_nil, Bool.or_false, Bool.false_or, Bool.or_true, Bool.true_or, Bool.and_true, Bool.true_and, Bool.and_false, Bool.false_and, Bool.not_true, Bool.not_false, Bool.not_not, decide_true, decide_false, Int.cast_ofNat_Int, Nat.reduceAdd, Nat.zero_add, Int.reduceEq, Int.reduceLT, Int.reduceLE, Int.reduceGT, Int.reduceGE, Int.reduceAdd, Int.reduceSub, Int.reduceMul, Int.reduceNeg, Int.reducePow, Int.reduceToNat]
  | some a => simp only [eI_s, Option.getD_some, x_seq, x_seq1, x_seq2, x_seq3, x_seq4, x_seq5, x_asg, x_asg1, x_asgF, x_asgF1, x_exp, x_exp1, x_ret, x_ret1, x_retF, x_retF1, x_retN, x_skip, x_brk, x_cnt, x_if, x_if1, x_if2, x_and, x_and1, x_and2, x_or, x_or1, x_or2, x_not, x_not1, x_bool, x_bool1, x_andV, x_andV1, x_andV2, x_orV, x_orV1, x_orV2, x_notV, x_notV1, x_ifV, x_ifV1, x_ifV2, x_cE, x_nm, x_nm1, x_nm2, x_rd, x_rd1, x_rd2, x_rd3, x_ev0, x_ev, x_ev1, x_ev2, x_pk, x_pk1, x_pk2, x_pk3, x_vv0, x_vv, x_vv1, x_op, x_op1, x_op2, x_ca, x_ck, x_ci, x_ci0, x_ci1, x_ci2, x_ci3, x_ci4, x_ci5, x_tup, x_tup1, x_lst, x_lst1, x_ch, x_ch1, x_ch2, x_ch3, x_ch4, x_ch5, x_asgT, x_asgT1, x_nx, x_par, x_par1, x_par2, x_par3, x_par31, x_par32, x_par33, x_tn, x_t0, x_tc, x_ts, x_ts0, x_ts1, x_up1, x_up2, x_upO, x_upI, x_app, x_app0, x_app1, x_for, x_for1, x_fl1, x_fl2, x_fl3, x_fl4, x_fl5, x_fl6, x_turn, x_its, x_its1, x_its2, x_its3, x_rg1, x_rg2, x_rg21, x_en, x_en1, x_zp, x_zp1, x_zp2, x_zp3, x_st, x_st0, x_st1, x_st2, x_st3, x_yes, x_lc2, x_rA1, x_rA2, x_rF1, x_rI1, x_rI2, x_wh1, x_wh2, x_wh3, x_wh4, x_wh5, o_add, o_sub, o_neg, o_lt, o_le, o_gt, o_ge, o_eq, o_ne, o_eqB, o_neB, o_int, o_abs, o_max, o_min, o_lenL, o_lenT, o_ix0, o_ix1, o_ixl0, o_ixl1, o_ixl2, o_isi, o_isi2, o_isN, o_notN, o_isB, o_notB, x_A0, x_F0, x_I0, x_A1, x_F1, x_I1, x_A2, x_F2, x_I2, x_A3, x_F3, x_I3, x_A4, x_F4, x_I4, x_A5, x_F5, x_I5, x_A6, x_F6, x_I6, x_A7, x_F7, x_I7, x_A8, x_F8, x_I8, x_wi0, x_wi, x_re0, x_re, x_re1, x_ok0, x_ok, x_ok1, x_ok2, o_not0, x_g0, x_gS, x_s0, x_sS, x_bs, x_bn, x_ms, x_isNnone, x_isNbool, x_isNint, x_isNstr, x_isNlist, x_isNtuple, x_isNdict, x_tyintnone, x_tyintbool, x_tyintint, x_tyintstr, x_tyintlist, x_tyinttuple, x_tyintdict, x_tyboolnone, x_tyboolbool, x_tyboolint, x_tyboolstr, x_tyboollist, x_tybooltuple, x_tybooldict, x_tystrnone, x_tystrbool, x_tystrint, x_tystrstr, x_tystrlist, x_tystrtuple, x_tystrdict, x_tytupnone, x_tytupbool, x_tytupint, x_tytupstr, x_tytuplist, x_tytuptuple, x_tytupdict, x_tylstnone, x_tylstbool, x_tylstint, x_tylststr, x_tylstlist, x_tylsttuple, x_tylstdict, x_tydctnone, x_tydctbool, x_tydctint, x_tydctstr, x_tydctlist, x_tydcttuple, x_tydctdict, x_be0, x_bn0, x_be1, x_bn1, x_be2, x_bn2, x_be3, x_bn3, List.length_cons, List.length_nil, List.map_cons, List.map_nil, List.replicate, List.cons_append, List.nil_append, List.append_nil, startE, pick, List.filterMap_cons, List.filterMap_nil, Bool.or_false, Bool.false_or, Bool.or_true, Bool.true_or, Bool.and_true, Bool.true_and, Bool.and_false, Bool.false_and, Bool.not_true, Bool.not_false, Bool.not_not, decide_true, decide_false, Int.cast_ofNat_Int, Nat.reduceAdd, Nat.zero_add, Int.reduceEq, Int.reduceLT, Int.reduceLE, Int.reduceGT, Int.reduceGE, Int.reduceAdd, Int.reduceSub, Int.reduceMul, Int.reduceNeg, Int.reducePow, Int.reduceToNat]
theorem r_1 : (asgM 5 (callA sem__law_of_span [(nameV 4)])) [c0, .sh (eR r), c2, .sh (.int low), .sh (eS sp), c5, c6, c7, c8, c9, c10, .no] = some (.nx [c0, .sh (eR r), c2, .sh (.int low), .sh (eS sp), .sh (eR (spanQ sp)), c6, c7, c8, c9, c10, .no]) := by
  simp only [e_lspan sp, x_seq, x_seq1, x_seq2, x_seq3, x_seq4, x_seq5, x_asg, x_asg1, x_asgF, x_asgF1, x_exp, x_exp1, x_ret, x_ret1, x_retF, x_retF1, x_retN, x_skip, x_brk, x_cnt, x_if, x_if1, x_if2, x_and, x_and1, x_and2, x_or, x_or1, x_or2, x_not, x_not1, x_bool, x_bool1, x_andV, x_andV1, x_andV2, x_orV, x_orV1, x_orV2, x_notV, x_notV1, x_ifV, x_ifV1, x_ifV2, x_cE, x_nm, x_nm1, x_nm2, x_rd, x_rd1, x_rd2, x_rd3, x_ev0, x_ev, x_ev1, x_ev2, x_pk, x_pk1, x_pk2, x_pk3, x_vv0, x_vv, x_vv1, x_op, x_op1, x_op2, x_ca, x_ck, x_ci, x_ci0, x_ci1, x_ci2, x_ci3, x_ci4, x_ci5, x_tup, x_tup1, x_lst, x_lst1, x_ch, x_ch1, x_ch2, x_ch3, x_ch4, x_ch5, x_asgT, x_asgT1, x_nx, x_par, x_par1, x_par2, x_par3, x_par31, x_par32, x_par33, x_tn, x_t0, x_tc, x_ts, x_ts0, x_ts1, x_up1, x_up2, x_upO, x_upI, x_app, x_app0, x_app1, x_for, x_for1, x_fl1, x_fl2, x_fl3, x_fl4, x_fl5, x_fl6, x_turn, x_its, x_its1, x_its2, x_its3, x_rg1, x_rg2, x_rg21, x_en, x_en1, x_zp, x_zp1, x_zp2, x_zp3, x_st, x_st0, x_st1, x_st2, x_st3, x_yes, x_lc2, x_rA1, x_rA2, x_rF1, x_rI1, x_rI2, x_wh1, x_wh2, x_wh3, x_wh4, x_wh5, o_add, o_sub, o_neg, o_lt, o_le, o_gt, o_ge, o_eq, o_ne, o_eqB, o_neB, o_int, o_abs, o_max, o_min, o_lenL, o_lenT, o_ix0, o_ix1, o_ixl0, o_ixl1, o_ixl2, o_isi, o_isi2, o_isN, o_notN, o_isB, o_notB, x_A0, x_F0, x_I0, x_A1, x_F1, x_I1, x_A2, x_F2, x_I2, x_A3, x_F3, x_I3, x_A4, x_F4, x_I4, x_A5, x_F5, x_I5, x_A6, x_F6, x_I6, x_A7, x_F7, x_I7, x_A8, x_F8, x_I8, x_wi0, x_wi, x_re0, x_re, x_re1, x_ok0, x_ok, x_ok1, x_ok2, o_not0, x_g0, x_gS, x_s0, x_sS, x_bs, x_bn, x_ms, x_isNnone, x_isNbool, x_isNint, x_isNstr, x_isNlist, x_isNtuple, x_isNdict, x_tyintnone, x_tyintbool, x_tyintint, x_tyintstr, x_tyintlist, x_tyinttuple, x_tyintdict, x_tyboolnone, x_tyboolbool, x_tyboolint, x_tyboolstr, x_tyboollist, x_tybooltuple, x_tybooldict, x_tystrnone, x_tystrbool, x_tystrint, x_tystrstr, x_tystrlist, x_tystrtuple, x_tystrdict, x_tytupnone, x_tytupbool, x_tytupint, x_tytupstr, x_tytuplist, x_tytuptuple, x_tytupdict, x_tylstnone, x_tylstbool, x_tylstint, x_tylststr, x_tylstlist, x_tylsttuple, x_tylstdict, x_tydctnone, x_tydctbool, x_tydctint, x_tydctstr, x_tydctlist, x_tydcttuple, x_tydctdict, x_be0, x_bn0, x_be1, x_bn1, x_be2, x_bn2, x_be3, x_bn3, List.length_cons, List.length_nil, List.map_cons, List.map_nil, List.replicate, List.cons_append, List.nil_append, List.append_nil, startE, pick, List.filterMap_cons, List.filterMap_nil, Bool.or_false, Bool.false_or, Bool.or_true, Bool.true_or, Bool.and_true, Bool.true_and, Bool.and_false, Bool.false_and, Bool.not_true, Bool.not_false, Bool.not_not, decide_true, decide_false, Int.cast_ofNat_Int, Nat.reduceAdd, Nat.zero_add, Int.reduceEq, Int.reduceLT, Int.reduceLE, Int.reduceGT, Int.reduceGE, Int.reduceAdd, Int.reduceSub, Int.reduceMul, Int.reduceNeg, Int.reducePow, Int.reduceToNat]
theorem r_2 (h : Rng sp) : (ifM (notT (boolT (callA (sem__law_same 12) [(lstV [(callA sem_rest_of_range [(nameV 4)]), (callK sem_rest_of_range [0] [(nameV 4)])]), (lstV [(nameV 5), (nameV 5)])]))) (seqM (retM (cE (.bool false))) skipM) skipM) [c0, .sh (eR r), c2, .sh (.int low), .sh (eS sp), .sh (eR (spanQ sp)), c6, c7, c8, c9, c10, .no] = some (.nx [c0, .sh (eR r), c2, .sh (.int low), .sh (eS sp), .sh (eR (spanQ sp)), c6, c7, c8, c9, c10, .no]) := by
  have s1 := e_same 11 (.list [eR (spanQ sp), eR (spanQ sp)]) (okS_l (by simp) (all_cons (okS_eR _ _) (all_cons (okS_eR _ _) all_nil)))
  simp only [e_of_range h, s1, x_seq, x_seq1, x_seq2, x_seq3, x_seq4, x_seq5, x_asg, x_asg1, x_asgF, x_asgF1, x_exp, x_exp1, x_ret, x_ret1, x_retF, x_retF1, x_retN, x_skip, x_brk, x_cnt, x_if, x_if1, x_if2, x_and, x_and1, x_and2, x_or, x_or1, x_or2, x_not, x_not1, x_bool, x_bool1, x_andV, x_andV1, x_andV2, x_orV, x_orV1, x_orV2, x_notV, x_notV1, x_ifV, x_ifV1, x_ifV2, x_cE, x_nm, x_nm1, x_nm2, x_rd, x_rd1, x_rd2, x_rd3, x_ev0, x_ev, x_ev1, x_ev2, x_pk, x_pk1, x_pk2, x_pk3, x_vv0, x_vv, x_vv1, x_op, x_op1, x_op2, x_ca, x_ck, x_ci, x_ci0, x_ci1, x_ci2, x_ci3, x_ci4, x_ci5, x_tup, x_tup1, x_lst, x_lst1, x_ch, x_ch1, x_ch2, x_ch3, x_ch4, x_ch5, x_asgT, x_asgT1, x_nx, x_par, x_par1, x_par2, x_par3, x_par31, x_par32, x_par33, x_tn, x_t0, x_tc, x_ts, x_ts0, x_ts1, x_up1, x_up2, x_upO, x_upI, x_app, x_app0, x_app1, x_for, x_for1, x_fl1, x_fl2, x_fl3, x_fl4, x_fl5, x_fl6, x_turn, x_its, x_its1, x_its2, x_its3, x_rg1, x_rg2, x_rg21, x_en, x_en1, x_zp, x_zp1, x_zp2, x_zp3, x_st, x_st0, x_st1, x_st2, x_st3, x_yes, x_lc2, x_rA1, x_rA2, x_rF1, x_rI1, x_rI2, x_wh1, x_wh2, x_wh3, x_wh4, x_wh5, o_add, o_sub, o_neg, o_lt, o_le, o_gt, o_ge, o_eq, o_ne, o_eqB, o_neB, o_int, o_abs, o_max, o_min, o_lenL, o_lenT, o_ix0, o_ix1, o_ixl0, o_ixl1, o_ixl2, o_isi, o_isi2, o_isN, o_notN, o_isB, o_notB, x_A0, x_F0, x_I0, x_A1, x_F1, x_I1, x_A2, x_F2, x_I2, x_A3, x_F3, x_I3, x_A4, x_F4, x_I4, x_A5, x_F5, x_I5, x_A6, x_F6, x_I6, x_A7, x_F7, x_I7, x_A8, x_F8, x_I8, x_wi0, x_wi, x_re0, x_re, x_re1, x_ok0, x_ok, x_ok1, x_ok2, o_not0, x_g0, x_gS, x_s0, x_sS, x_bs, x_bn, x_ms, x_isNnone, x_isNbool, x_isNint, x_isNstr, x_isNlist, x_isNtuple, x_isNdict, x_tyintnone, x_tyintbool, x_tyintint, x_tyintstr, x_tyintlist, x_tyinttuple, x_tyintdict, x_tyboolnone, x_tyboolbool, x_tyboolint, x_tyboolstr, x_tyboollist, x_tybooltuple, x_tybooldict, x_tystrnone, x_tystrbool, x_tystrint, x_tystrstr, x_tystrlist, x_tystrtuple, x_tystrdict, x_tytupnone, x_tytupbool, x_tytupint, x_tytupstr, x_tytuplist, x_tytuptuple, x_tytupdict, x_tylstnone, x_tylstbool, x_tylstint, x_tylststr, x_tylstlist, x_tylsttuple, x_tylstdict, x_tydctnone, x_tydctbool, x_tydctint, x_tydctstr, x_tydctlist, x_tydcttuple, x_tydctdict, x_be0, x_bn0, x_be1, x_bn1, x_be2, x_bn2, x_be3, x_bn3, List.length_cons, List.length_nil, List.map_cons, List.map_nil, List.replicate, List.cons_append, List.nil_append, List.append_nil, startE, pick, List.filterMap_cons, List.filterMap_nil, Bool.or_false, Bool.false_or, Bool.or_true, Bool.true_or, Bool.and_true, Bool.true_and, Bool.and_false, Bool.false_and, Bool.not_true, Bool.not_false, Bool.not_not, decide_true, decide_false, Int.cast_ofNat_Int, Nat.reduceAdd, Nat.zero_add, Int.reduceEq, Int.reduceLT, Int.reduceLE, Int.reduceGT, Int.reduceGE, Int.reduceAdd, Int.reduceSub, Int.reduceMul, Int.reduceNeg, Int.reducePow, Int.reduceToNat]
theorem r_3 (h : Rng sp) (hr : Can r.1 r.2) : (asgM 6 (callA sem_tight_range [(nameV 4), (nameV 1)])) [c0, .sh (eR r), c2, .sh (.int low), .sh (eS sp), c5, c6, c7, c8, c9, c10, .no] = some (.nx [c0, .sh (eR r), c2, .sh (.int low), .sh (eS sp), c5, .sh (eT (tightQ sp r)), c7, c8, c9, c10, .no]) := by
  simp only [e_tight h hr, x_seq, x_seq1, x_seq2, x_seq3, x_seq4, x_seq5, x_asg, x_asg1, x_asgF, x_asgF1, x_exp, x_exp1, x_ret, x_ret1, x_retF, x_retF1, x_retN, x_skip, x_brk, x_cnt, x_if, x_if1, x_if2, x_and, x_and1, x_and2, x_or, x_or1, x_or2, x_not, x_not1, x_bool, x_bool1, x_andV, x_andV1, x_andV2, x_orV, x_orV1, x_orV2, x_notV, x_notV1, x_ifV, x_ifV1, x_ifV2, x_cE, x_nm, x_nm1, x_nm2, x_rd, x_rd1, x_rd2, x_rd3, x_ev0, x_ev, x_ev1, x_ev2, x_pk, x_pk1, x_pk2, x_pk3, x_vv0, x_vv, x_vv1, x_op, x_op1, x_op2, x_ca, x_ck, x_ci, x_ci0, x_ci1, x_ci2, x_ci3, x_ci4, x_ci5, x_tup, x_tup1, x_lst, x_lst1, x_ch, x_ch1, x_ch2, x_ch3, x_ch4, x_ch5, x_asgT, x_asgT1, x_nx, x_par, x_par1, x_par2, x_par3, x_par31, x_par32, x_par33, x_tn, x_t0, x_tc, x_ts, x_ts0, x_ts1, x_up1, x_up2, x_upO, x_upI, x_app, x_app0, x_app1, x_for, x_for1, x_fl1, x_fl2, x_fl3, x_fl4, x_fl5, x_fl6, x_turn, x_its, x_its1, x_its2, x_its3, x_rg1, x_rg2, x_rg21, x_en, x_en1, x_zp, x_zp1, x_zp2, x_zp3, x_st, x_st0, x_st1, x_st2, x_st3, x_yes, x_lc2, x_rA1, x_rA2, x_rF1, x_rI1, x_rI2, x_wh1, x_wh2, x_wh3, x_wh4, x_wh5, o_add, o_sub, o_neg, o_lt, o_le, o_gt, o_ge, o_eq, o_ne, o_eqB, o_neB, o_int, o_abs, o_max, o_min, o_lenL, o_lenT, o_ix0, o_ix1, o_ixl0, o_ixl1, o_ixl2, o_isi, o_isi2, o_isN, o_notN, o_isB, o_notB, x_A0, x_F0, x_I0, x_A1, x_F1, x_I1, x_A2, x_F2, x_I2, x_A3, x_F3, x_I3, x_A4, x_F4, x_I4, x_A5, x_F5, x_I5, x_A6, x_F6, x_I6, x_A7, x_F7, x_I7, x_A8, x_F8, x_I8, x_wi0, x_wi, x_re0, x_re, x_re1, x_ok0, x_ok, x_ok1, x_ok2, o_not0, x_g0, x_gS, x_s0, x_sS, x_bs, x_bn, x_ms, x_isNnone, x_isNbool, x_isNint, x_isNstr, x_isNlist, x_isNtuple, x_isNdict, x_tyintnone, x_tyintbool, x_tyintint, x_tyintstr, x_tyintlist, x_tyinttuple, x_tyintdict, x_tyboolnone, x_tyboolbool, x_tyboolint, x_tyboolstr, x_tyboollist, x_tybooltuple, x_tybooldict, x_tystrnone, x_tystrbool, x_tystrint, x_tystrstr, x_tystrlist, x_tystrtuple, x_tystrdict, x_tytupnone, x_tytupbool, x_tytupint, x_tytupstr, x_tytuplist, x_tytuptuple, x_tytupdict, x_tylstnone, x_tylstbool, x_tylstint, x_tylststr, x_tylstlist, x_tylsttuple, x_tylstdict, x_tydctnone, x_tydctbool, x_tydctint, x_tydctstr, x_tydctlist, x_tydcttuple, x_tydctdict, x_be0, x_bn0, x_be1, x_bn1, x_be2, x_bn2, x_be3, x_bn3, List.length_cons, List.length_nil, List.map_cons, List.map_nil, List.replicate, List.cons_append, List.nil_append, List.append_nil, startE, pick, List.filterMap_cons, List.filterMap_nil, Bool.or_false, Bool.false_or, Bool.or_true, Bool.true_or, Bool.and_true, Bool.true_and, Bool.and_false, Bool.false_and, Bool.not_true, Bool.not_false, Bool.not_not, decide_true, decide_false, Int.cast_ofNat_Int, Nat.reduceAdd, Nat.zero_add, Int.reduceEq, Int.reduceLT, Int.reduceLE, Int.reduceGT, Int.reduceGE, Int.reduceAdd, Int.reduceSub, Int.reduceMul, Int.reduceNeg, Int.reducePow, Int.reduceToNat]
theorem r_4 (h : Rng sp) (hr : Can r.1 r.2) : (ifM (notT (boolT (callA (sem__law_same 12) [(nameV 6), (callK sem_tight_range [1, 0] [(nameV 1), (nameV 4)])]))) (seqM (retM (cE (.bool false))) skipM) skipM) [c0, .sh (eR r), c2, .sh (.int low), .sh (eS sp), c5, .sh (eT (tightQ sp r)), c7, c8, c9, c10, .no] = some (.nx [c0, .sh (eR r), c2, .sh (.int low), .sh (eS sp), c5, .sh (eT (tightQ sp r)), c7, c8, c9, c10, .no]) := by
  have s2 := e_same 11 (eT (tightQ sp r)) (okS_eT _ _)
  simp only [e_tight h hr, s2, x_seq, x_seq1, x_seq2, x_seq3, x_seq4, x_seq5, x_asg, x_asg1, x_asgF, x_asgF1, x_exp, x_exp1, x_ret, x_ret1, x_retF, x_retF1, x_retN, x_skip, x_brk, x_cnt, x_if, x_if1, x_if2, x_and, x_and1, x_and2, x_or, x_or1, x_or2, x_not, x_not1, x_bool, x_bool1, x_andV, x_andV1, x_andV2, x_orV, x_orV1, x_orV2, x_notV, x_notV1, x_ifV, x_ifV1, x_ifV2, x_cE, x_nm, x_nm1, x_nm2, x_rd, x_rd1, x_rd2, x_rd3, x_ev0, x_ev, x_ev1, x_ev2, x_pk, x_pk1, x_pk2, x_pk3, x_vv0, x_vv, x_vv1, x_op, x_op1, x_op2, x_ca, x_ck, x_ci, x_ci0, x_ci1, x_ci2, x_ci3, x_ci4, x_ci5, x_tup, x_tup1, x_lst, x_lst1, x_ch, x_ch1, x_ch2, x_ch3, x_ch4, x_ch5, x_asgT, x_asgT1, x_nx, x_par, x_par1, x_par2, x_par3, x_par31, x_par32, x_par33, x_tn, x_t0, x_tc, x_ts, x_ts0, x_ts1, x_up1, x_up2, x_upO, x_upI, x_app, x_app0, x_app1, x_for, x_for1, x_fl1, x_fl2, x_fl3, x_fl4, x_fl5, x_fl6, x_turn, x_its, x_its1, x_its2, x_its3, x_rg1, x_rg2, x_rg21, x_en, x_en1, x_zp, x_zp1, x_zp2, x_zp3, x_st, x_st0, x_st1, x_st2, x_st3, x_yes, x_lc2, x_rA1, x_rA2, x_rF1, x_rI1, x_rI2, x_wh1, x_wh2, x_wh3, x_wh4, x_wh5, o_add, o_sub, o_neg, o_lt, o_le, o_gt, o_ge, o_eq, o_ne, o_eqB, o_neB, o_int, o_abs, o_max, o_min, o_lenL, o_lenT, o_ix0, o_ix1, o_ixl0, o_ixl1, o_ixl2, o_isi, o_isi2, o_isN, o_notN, o_isB, o_notB, x_A0, x_F0, x_I0, x_A1, x_F1, x_I1, x_A2, x_F2, x_I2, x_A3, x_F3, x_I3, x_A4, x_F4, x_I4, x_A5, x_F5, x_I5, x_A6, x_F6, x_I6, x_A7, x_F7, x_I7, x_A8, x_F8, x_I8, x_wi0, x_wi, x_re0, x_re, x_re1, x_ok0, x_ok, x_ok1, x_ok2, o_not0, x_g0, x_gS, x_s0, x_sS, x_bs, x_bn, x_ms, x_isNnone, x_isNbool, x_isNint, x_isNstr, x_isNlist, x_isNtuple, x_isNdict, x_tyintnone, x_tyintbool, x_tyintint, x_tyintstr, x_tyintlist, x_tyinttuple, x_tyintdict, x_tyboolnone, x_tyboolbool, x_tyboolint, x_tyboolstr, x_tyboollist, x_tybooltuple, x_tybooldict, x_tystrnone, x_tystrbool, x_tystrint, x_tystrstr, x_tystrlist, x_tystrtuple, x_tystrdict, x_tytupnone, x_tytupbool, x_tytupint, x_tytupstr, x_tytuplist, x_tytuptuple, x_tytupdict, x_tylstnone, x_tylstbool, x_tylstint, x_tylststr, x_tylstlist, x_tylsttuple, x_tylstdict, x_tydctnone, x_tydctbool, x_tydctint, x_tydctstr, x_tydctlist, x_tydcttuple, x_tydctdict, x_be0, x_bn0, x_be1, x_bn1, x_be2, x_bn2, x_be3, x_bn3, List.length_cons, List.length_nil, List.map_cons, List.map_nil, List.replicate, List.cons_append, List.nil_append, List.append_nil, startE, pick, List.filterMap_cons, List.filterMap_nil, Bool.or_false, Bool.false_or, Bool.or_true, Bool.true_or, Bool.and_true, Bool.true_and, Bool.and_false, Bool.false_and, Bool.not_true, Bool.not_false, Bool.not_not, decide_true, decide_false, Int.cast_ofNat_Int, Nat.reduceAdd, Nat.zero_add, Int.reduceEq, Int.reduceLT, Int.reduceLE, Int.reduceGT, Int.reduceGE, Int.reduceAdd, Int.reduceSub, Int.reduceMul, Int.reduceNeg, Int.reducePow, Int.reduceToNat]
theorem r_5 : (parM 7 8 (ifV (boolT (opN isND [.v (opN ixD [.p 4, .v (cE (.int 0))]), .v (cE .none)])) (nameV 3) (opN ixD [.p 4, .v (cE (.int 0))])) (ifV (boolT (opN isND [.v (opN ixD [.p 4, .v (cE (.int 1))]), .v (cE .none)])) (nameV 3) (opN ixD [.p 4, .v (cE (.int 1))]))) [c0, .sh (eR r), c2, .sh (.int low), .sh (eS sp), c5, c6, c7, c8, c9, c10, .no] = some (.nx [c0, .sh (eR r), c2, .sh (.int low), .sh (eS sp), c5, c6, .sh (.int (sp.1.getD low)), .sh (.int (sp.2.getD low)), c9, c10, .no]) := by
  rw [x_par, r_lo, x_bs, x_par1, r_hi]
  simp only [x_seq, x_seq1, x_seq2, x_seq3, x_seq4, x_seq5, x_asg, x_asg1, x_asgF, x_asgF1, x_exp, x_exp1, x_ret, x_ret1, x_retF, x_retF1, x_retN, x_skip, x_brk, x_cnt, x_if, x_if1, x_if2, x_and, x_and1, x_and2, x_or, x_or1, x_or2, x_not, x_not1, x_bool, x_bool1, x_andV, x_andV1, x_andV2, x_orV, x_orV1, x_orV2, x_notV, x_notV1, x_ifV, x_ifV1, x_ifV2, x_cE, x_nm, x_nm1, x_nm2, x_rd, x_rd1, x_rd2, x_rd3, x_ev0, x_ev, x_ev1, x_ev2, x_pk, x_pk1, x_pk2, x_pk3, x_vv0, x_vv, x_vv1, x_op, x_op1, x_op2, x_ca, x_ck, x_ci, x_ci0, x_ci1, x_ci2, x_ci3, x_ci4, x_ci5, x_tup, x_tup1, x_lst, x_lst1, x_ch, x_ch1, x_ch2, x_ch3, x_ch4, x_ch5, x_asgT, x_asgT1, x_nx, x_par, x_par1, x_par2, x_par3, x_par31, x_par32, x_par33, x_tn, x_t0, x_tc, x_ts, x_ts0, x_ts1, x_up1, x_up2, x_upO, x_upI, x_app, x_app0, x_app1, x_for, x_for1, x_fl1, x_fl2, x_fl3, x_fl4, x_fl5, x_fl6, x_turn, x_its, x_its1, x_its2, x_its3, x_rg1, x_rg2, x_rg21, x_en, x_en1, x_zp, x_zp1, x_zp2, x_zp3, x_st, x_st0, x_st1, x_st2, x_st3, x_yes, x_lc2, x_rA1, x_rA2, x_rF1, x_rI1, x_rI2, x_wh1, x_wh2, x_wh3, x_wh4, x_wh5, o_add, o_sub, o_neg, o_lt, o_le, o_gt, o_ge, o_eq, o_ne, o_eqB, o_neB, o_int, o_abs, o_max, o_min, o_lenL, o_lenT, o_ix0, o_ix1, o_ixl0, o_ixl1, o_ixl2, o_isi, o_isi2, o_isN, o_notN, o_isB, o_notB, x_A0, x_F0, x_I0, x_A1, x_F1, x_I1, x_A2, x_F2, x_I2, x_A3, x_F3, x_I3, x_A4, x_F4, x_I4, x_A5, x_F5, x_I5, x_A6, x_F6, x_I6, x_A7, x_F7, x_I7, x_A8, x_F8, x_I8, x_wi0, x_wi, x_re0, x_re, x_re1, x_ok0, x_ok, x_ok1, x_ok2, o_not0, x_g0, x_gS, x_s0, x_sS, x_bs, x_bn, x_ms, x_isNnone, x_isNbool, x_isNint, x_isNstr, x_isNlist, x_isNtuple, x_isNdict, x_tyintnone, x_tyintbool, x_tyintint, x_tyintstr, x_tyintlist, x_tyinttuple, x_tyintdict, x_tyboolnone, x_tyboolbool, x_tyboolint, x_tyboolstr, x_tyboollist, x_tybooltuple, x_tybooldict, x_tystrnone, x_tystrbool, x_tystrint, x_tystrstr, x_tystrlist, x_tystrtuple, x_tystrdict, x_tytupnone, x_tytupbool, x_tytupint, x_tytupstr, x_tytuplist, x_tytuptuple, x_tytupdict, x_tylstnone, x_tylstbool, x_tylstint, x_tylststr, x_tylstlist, x_tylsttuple, x_tylstdict, x_tydctnone, x_tydctbool, x_tydctint, x_tydctstr, x_tydctlist, x_tydcttuple, x_tydctdict, x_be0, x_bn0, x_be1, x_bn1, x_be2, x_bn2, x_be3, x_bn3, List.length_cons, List.length_nil, List.map_cons, List.map_nil, List.replicate, List.cons_append, List.nil_append, List.append_nil, startE, pick, List.filterMap_cons, List.filterMap_nil, Bool.or_false, Bool.false_or, Bool.or_true, Bool.true_or, Bool.and_true, Bool.true_and, Bool.and_false, Bool.false_and, Bool.not_true, Bool.not_false, Bool.not_not, decide_true, decide_false, Int.cast_ofNat_Int, Nat.reduceAdd, Nat.zero_add, Int.reduceEq, Int.reduceLT, Int.reduceLE, Int.reduceGT, Int.reduceGE, Int.reduceAdd, Int.reduceSub, Int.reduceMul, Int.reduceNeg, Int.reducePow, Int.reduceToNat]
theorem r_6 (hr : Can r.1 r.2) (hs : r.2 ≤ 12) (hB : sp.1.getD low ≤ sp.2.getD low) (b1 : -200 ≤ sp.1.getD low) (b2 : sp.2.getD low ≤ 200) :
    (asgM 9 (lcV (itRng2 (opN subD [.v (opN subD [.p 7, .v (opN ixD [.p 1, .v (cE (.int 1))])]), .v (cE (.int 45))]) (opN addD [.v (opN addD [.p 8, .v (opN ixD [.p 1, .v (cE (.int 1))])]), .v (cE (.int 45))])) [11] (tgName 11) cc__law_range_right_3 ce__law_range_right_4)) [c0, .sh (eR r), c2, .sh (.int low), .sh (eS sp), c5, c6, .sh (.int (sp.1.getD low)), .sh (.int (sp.2.getD low)), c9, c10, .no] = some (.nx [c0, .sh (eR r), c2, .sh (.int low), .sh (eS sp), c5, c6, .sh (.int (sp.1.getD low)), .sh (.int (sp.2.getD low)), .sh (.list ((numsP (pS sp r) (sp.1.getD low - r.2 - 45) (sp.2.getD low + r.2 + 45)).map .int)), c10, .no]) := by
  have hr0 := hr.1
  generalize hb : sp.1.getD low = b at *
  generalize he : sp.2.getD low = e at *
  have rg : ∀ ρ, krg21 (b - r.2 - 45) (.int (e + r.2 + 45), ρ) = some ((((List.range (e + r.2 + 45 - (b - r.2 - 45)).toNat).map fun i => b - r.2 - 45 + (i : Nat)).map .int), ρ) := fun ρ => by
    rw [x_rg22 _ _ ρ ⟨rb_ok (by omega) (by omega), rb_ok (by omega) (by omega)⟩, ints_map]
  have w := w_some c0 c2 (.sh (.int low)) c5 c6 (.sh (.int b)) (.sh (.int e)) c9 c10 sp r hr0 ((List.range (e + r.2 + 45 - (b - r.2 - 45)).toNat).map fun i => b - r.2 - 45 + (i : Nat))
  have hz : ((((List.range (e + r.2 + 45 - (b - r.2 - 45)).toNat).map fun i => b - r.2 - 45 + (i : Nat)).map PyData.int)).length ≤ sizeLine := by
    rw [List.length_map, List.length_map, List.length_range]
    exact Nat.le_trans (show _ ≤ 5000 by omega) (by decide)
  have hS : ((List.range (e + r.2 + 45 - (b - r.2 - 45)).toNat).map fun i => b - r.2 - 45 + (i : Nat)).filter (pS sp r) = numsP (pS sp r) (b - r.2 - 45) (e + r.2 + 45) := rfl
  rw [hS] at w
  generalize ((List.range (e + r.2 + 45 - (b - r.2 - 45)).toNat).map fun i => b - r.2 - 45 + (i : Nat)) = L at *
  have ok : ∀ (a1 a2 a3 a4 a5 a6 a7 a8 a9 a10 a11 : Cell), okW [a1, a2, a3, a4, a5, a6, a7, a8, a9, a10, a11, .no] [11] = true := fun _ _ _ _ _ _ _ _ _ _ _ => rfl
  simp only [rg, x_lc, x_lc1, ok, hz, w, x_seq, x_seq1, x_seq2, x_seq3, x_seq4, x_seq5, x_asg, x_asg1, x_asgF, x_asgF1, x_exp, x_exp1, x_ret, x_ret1, x_retF, x_retF1, x_retN, x_skip, x_brk, x_cnt, x_if, x_if1, x_if2, x_and, x_and1, x_and2, x_or, x_or1, x_or2, x_not, x_not1, x_bool, x_bool1, x_andV, x_andV1, x_andV2, x_orV, x_orV1, x_orV2, x_notV, x_notV1, x_ifV, x_ifV1, x_ifV2, x_cE, x_nm, x_nm1, x_nm2, x_rd, x_rd1, x_rd2, x_rd3, x_ev0, x_ev, x_ev1, x_ev2, x_pk, x_pk1, x_pk2, x_pk3, x_vv0, x_vv, x_vv1, x_op, x_op1, x_op2, x_ca, x_ck, x_ci, x_ci0, x_ci1, x_ci2, x_ci3, x_ci4, x_ci5, x_tup, x_tup1, x_lst, x_lst1, x_ch, x_ch1, x_ch2, x_ch3, x_ch4, x_ch5, x_asgT, x_asgT1, x_nx, x_par, x_par1, x_par2, x_par3, x_par31, x_par32, x_par33, x_tn, x_t0, x_tc, x_ts, x_ts0, x_ts1, x_up1, x_up2, x_upO, x_upI, x_app, x_app0, x_app1, x_for, x_for1, x_fl1, x_fl2, x_fl3, x_fl4, x_fl5, x_fl6, x_turn, x_its, x_its1, x_its2, x_its3, x_rg1, x_rg2, x_rg21, x_en, x_en1, x_zp, x_zp1, x_zp2, x_zp3, x_st, x_st0, x_st1, x_st2, x_st3, x_yes, x_lc2, x_rA1, x_rA2, x_rF1, x_rI1, x_rI2, x_wh1, x_wh2, x_wh3, x_wh4, x_wh5, o_add, o_sub, o_neg, o_lt, o_le, o_gt, o_ge, o_eq, o_ne, o_eqB, o_neB, o_int, o_abs, o_max, o_min, o_lenL, o_lenT, o_ix0, o_ix1, o_ixl0, o_ixl1, o_ixl2, o_isi, o_isi2, o_isN, o_notN, o_isB, o_notB, x_A0, x_F0, x_I0, x_A1, x_F1, x_I1, x_A2, x_F2, x_I2, x_A3, x_F3, x_I3, x_A4, x_F4, x_I4, x_A5, x_F5, x_I5, x_A6, x_F6, x_I6, x_A7, x_F7, x_I7, x_A8, x_F8, x_I8, x_wi0, x_wi, x_re0, x_re, x_re1, x_ok0, x_ok, x_ok1, x_ok2, o_not0, x_g0, x_gS, x_s0, x_sS, x_bs, x_bn, x_ms, x_isNnone, x_isNbool, x_isNint, x_isNstr, x_isNlist, x_isNtuple, x_isNdict, x_tyintnone, x_tyintbool, x_tyintint, x_tyintstr, x_tyintlist, x_tyinttuple, x_tyintdict, x_tyboolnone, x_tyboolbool, x_tyboolint, x_tyboolstr, x_tyboollist, x_tybooltuple, x_tybooldict, x_tystrnone, x_tystrbool, x_tystrint, x_tystrstr, x_tystrlist, x_tystrtuple, x_tystrdict, x_tytupnone, x_tytupbool, x_tytupint, x_tytupstr, x_tytuplist, x_tytuptuple, x_tytupdict, x_tylstnone, x_tylstbool, x_tylstint, x_tylststr, x_tylstlist, x_tylsttuple, x_tylstdict, x_tydctnone, x_tydctbool, x_tydctint, x_tydctstr, x_tydctlist, x_tydcttuple, x_tydctdict, x_be0, x_bn0, x_be1, x_bn1, x_be2, x_bn2, x_be3, x_bn3, List.length_cons, List.length_nil, List.map_cons, List.map_nil, List.replicate, List.cons_append, List.nil_append, List.append_nil, startE, pick, List.filterMap_cons, List.filterMap_nil, Bool.or_false, Bool.false_or, Bool.or_true, Bool.true_or, Bool.and_true, Bool.true_and, Bool.and_false, Bool.false_and, Bool.not_true, Bool.not_false, Bool.not_not, decide_true, decide_false, Int.cast_ofNat_Int, Nat.reduceAdd, Nat.zero_add, Int.reduceEq, Int.reduceLT, Int.reduceLE, Int.reduceGT, Int.reduceGE, Int.reduceAdd, Int.reduceSub, Int.reduceMul, Int.reduceNeg, Int.reducePow, Int.reduceToNat]
end
end LW

set_option maxRecDepth 20000
set_option maxHeartbeats 0
namespace LW
open PySem PySem.Spec PyProof.Rows L2 MP RT
section
variable (c0 c2 c5 c7 c8 c10 : Cell) (sp : Option Int × Option Int) (r : Int × Int) (low : Int)
theorem same_r (n : Nat) (r : Int × Int) : sem__law_same (n + 2) [.tuple [.int r.1, .int r.1], .tuple [.int r.1, .int r.1]] = some (.bool true) := e_same (n + 1) _ (okS_t2 (by cases n <;> exact trivial) (by cases n <;> exact trivial))
theorem same_n (n : Nat) : sem__law_same (n + 1) [.none, .none] = some (.bool true) := e_same n _ (by cases n <;> exact trivial)
theorem r_7z (he : r.2 = 0) (c9 : Cell) : ∃ d10, (ifM (boolT (opN eqD [.v (opN ixD [.p 1, .v (cE (.int 1))]), .v (cE (.int 0))])) (seqM (asgM 10 (andV (orV (opN isND [.v (opN ixD [.p 4, .v (cE (.int 0))]), .v (cE .none)]) (opN leD [.v (opN ixD [.p 4, .v (cE (.int 0))]), .v (opN ixD [.p 1, .v (cE (.int 0))])])) (orV (opN isND [.v (opN ixD [.p 4, .v (cE (.int 1))]), .v (cE .none)]) (opN leD [.v (opN ixD [.p 1, .v (cE (.int 0))]), .v (opN ixD [.p 4, .v (cE (.int 1))])])))) (seqM (ifM (notT (boolT (callA (sem__law_same 12) [(nameV 6), (ifV (boolT (nameV 10)) (tupV [(opN ixD [.p 1, .v (cE (.int 0))]), (opN ixD [.p 1, .v (cE (.int 0))])]) (cE .none))]))) (seqM (retM (cE (.bool false))) skipM) skipM) skipM)) (seqM (ifM (notT (boolT (callA (sem__law_same 12) [(nameV 6), (ifV (boolT (opN eqD [.p 9, .v (lstV [])])) (cE .none) (tupV [(ifV (boolT (opN isND [.v (opN ixD [.p 4, .v (cE (.int 0))]), .v (cE .none)])) (cE .none) (opN ixD [.p 9, .v (cE (.int 0))])), (ifV (boolT (opN isND [.v (opN ixD [.p 4, .v (cE (.int 1))]), .v (cE .none)])) (cE .none) (opN ixD [.p 9, .v (opN negD [.v (cE (.int 1))])]))]))]))) (seqM (retM (cE (.bool false))) skipM) skipM) skipM)) [c0, .sh (eR r), c2, .sh (.int low), .sh (eS sp), c5, .sh (eT (tightQ sp r)), c7, c8, c9, c10, .no] = some (.nx [c0, .sh (eR r), c2, .sh (.int low), .sh (eS sp), c5, .sh (eT (tightQ sp r)), c7, c8, c9, d10, .no]) := by
  have s1 := same_r 10 r
  have s0 := same_n 11
  obtain ⟨a, b⟩ := sp
  have ht : tightQ (a, b) r = if (match a with | none => true | some a => decide (a ≤ r.1)) && (match b with | none => true | some b => decide (r.1 ≤ b)) then some (some r.1, some r.1) else none := if_pos he
  cases a with
  | none => cases b with
    | none =>
      have ht : tightQ (none, none) r = some (some r.1, some r.1) := ht
      rw [ht]
      refine ⟨.sh (.bool true), ?_⟩
      simp only [he, s1, eT_s, eI_n, eI_s, x_seq, x_seq1, x_seq2, x_seq3, x_seq4, x_seq5, x_asg, x_asg1, x_asgF, x_asgF1, x_exp, x_exp1, x_ret, x_ret1, x_retF, x_retF1, x_retN, x_skip, x_brk, x_cnt, x_if, x_if1, x_if2, x_and, x_and1, x_and2, x_or, x_or1, x_or2, x_not, x_not1, x_bool, x_bool1, x_andV, x_andV1, x_andV2, x_orV, x_orV1, x_orV2, x_notV, x_notV1, x_ifV, x_ifV1, x_ifV2, x_cE, x_nm, x_nm1, x_nm2, x_rd, x_rd1, x_rd2, x_rd3, x_ev0, x_ev, x_ev1, x_ev2, x_pk, x_pk1, x_pk2, x_pk3, x_vv0, x_vv, x_vv1, x_op, x_op1, x_op2, x_ca, x_ck, x_ci, x_ci0, x_ci1, x_ci2, x_ci3, x_ci4, x_ci5, x_tup, x_tup1, x_lst, x_lst1, x_ch, x_ch1, x_ch2, x_ch3, x_ch4, x_ch5, x_asgT, x_asgT1, x_nx, x_par, x_par1, x_par2, x_par3, x_par31, x_par32, x_par33, x_tn, x_t0, x_tc, x_ts, x_ts0, x_ts1, x_up1, x_up2, x_upO, x_upI, x_app, x_app0, x_app1, x_for, x_for1, x_fl1, x_fl2, x_fl3, x_fl4, x_fl5, x_fl6, x_turn, x_its, x_its1, x_its2, x_its3, x_rg1, x_rg2, x_rg21, x_en, x_en1, x_zp, x_zp1, x_zp2, x_zp3, x_st, x_st0, x_st1, x_st2, x_st3, x_yes, x_lc2, x_rA1, x_rA2, x_rF1, x_rI1, x_rI2, x_wh1, x_wh2, x_wh3, x_wh4, x_wh5, o_add, o_sub, o_neg, o_lt, o_le, o_gt, o_ge, o_eq, o_ne, o_eqB, o_neB, o_int, o_abs, o_max, o_min, o_lenL, o_lenT, o_ix0, o_ix1, o_ixl0, o_ixl1, o_ixl2, o_isi, o_isi2, o_isN, o_notN, o_isB, o_notB, x_A0, x_F0, x_I0, x_A1, x_F1, x_I1, x_A2, x_F2, x_I2, x_A3, x_F3, x_I3, x_A4, x_F4, x_I4, x_A5, x_F5, x_I5, x_A6, x_F6, x_I6, x_A7, x_F7, x_I7, x_A8, x_F8, x_I8, x_wi0, x_wi, x_re0, x_re, x_re1, x_ok0, x_ok, x_ok1, x_ok2, o_not0, x_g0, x_gS, x_s0, x_sS, x_bs, x_bn, x_ms, x_isNnone, x_isNbool, x_isNint, x_isNstr, x_isNlist, x_isNtuple, x_isNdict, x_tyintnone, x_tyintbool, x_tyintint, x_tyintstr, x_tyintlist, x_tyinttuple, x_tyintdict, x_tyboolnone, x_tyboolbool, x_tyboolint, x_tyboolstr, x_tyboollist, x_tybooltuple, x_tybooldict, x_tystrnone, x_tystrbool, x_tystrint, x_tystrstr, x_tystrlist, x_tystrtuple, x_tystrdict, x_tytupnone, x_tytupbool, x_tytupint, x_tytupstr, x_tytuplist, x_tytuptuple, x_tytupdict, x_tylstnone, x_tylstbool, x_tylstint, x_tylststr, x_tylstlist, x_tylsttuple, x_tylstdict, x_tydctnone, x_tydctbool, x_tydctint, x_tydctstr, x_tydctlist, x_tydcttuple, x_tydctdict, x_be0, x_bn0, x_be1, x_bn1, x_be2, x_bn2, x_be3, x_bn3, List.length_cons, List.length_nil, List.map_cons, List.map_nil, List.replicate, List.cons_append, List.nil_append, List.append_nil, startE, pick, List.filterMap_cons, List.filterMap_nil, Bool.or_false, Bool.false_or, Bool.or_true, Bool.true_or, Bool.and_true, Bool.true_and, Bool.and_false, Bool.false_and, Bool.not_true, Bool.not_false, Bool.not_not, decide_true, decide_false, Int.cast_ofNat_Int, Nat.reduceAdd, Nat.zero_add, Int.reduceEq, Int.reduceLT, Int.reduceLE, Int.reduceGT, Int.reduceGE, Int.reduceAdd, Int.reduceSub, Int.reduceMul, Int.reduceNeg, Int.reducePow, Int.reduceToNat]
    | some b =>
      by_cases hb : r.1 ≤ b
      · have ht : tightQ (none, some b) r = some (some r.1, some r.1) := by rw [ht]; simp [hb]
        rw [ht]
        refine ⟨.sh (.bool true), ?_⟩
        simp only [he, s1, hb, eT_s, eI_n, eI_s, x_seq, x_seq1, x_seq2, x_seq3, x_seq4, x_seq5, x_asg, x_asg1, x_asgF, x_asgF1, x_exp, x_exp1, x_ret, x_ret1, x_retF, x_retF1, x_retN, x_skip, x_brk, x_cnt, x_if, x_if1, x_if2, x_and, x_and1, x_and2, x_or, x_or1, x_or2, x_not, x_not1, x_bool, x_bool1, x_andV, x_andV1, x_andV2, x_orV, x_orV1, x_orV2, x_notV, x_notV1, x_ifV, x_ifV1, x_ifV2, x_cE, x_nm, x_nm1, x_nm2, x_rd, x_rd1, x_rd2, x_rd3, x_ev0, x_ev, x_ev1, x_ev2, x_pk, x_pk1, x_pk2, x_pk3, x_vv0, x_vv, x_vv1, x_op, x_op1, x_op2, x_ca, x_ck, x_ci, x_ci0, x_ci1, x_ci2, x_ci3, x_ci4, x_ci5, x_tup, x_tup1, x_lst, x_lst1, x_ch, x_ch1, x_ch2, x_ch3, x_ch4, x_ch5, x_asgT, x_asgT1, x_nx, x_par, x_par1, x_par2, x_par3, x_par31, x_par32, x_par33, x_tn, x_t0, x_tc, x_ts, x_ts0, x_ts1, x_up1, x_up2, x_upO, x_upI, x_app, x_app0, x_app1, x_for, x_for1, x_fl1, x_fl2, x_fl3, x_fl4, x_fl5, x_fl6, x_turn, x_its, x_its1, x_its2, x_its3, x_rg1, x_rg2, x_rg21, x_en, x_en1, x_zp, x_zp1, x_zp2, x_zp3, x_st, x_st0, x_st1, x_st2, x_st3, x_yes, x_lc2, x_rA1, x_rA2, x_rF1, x_rI1, x_rI2, x_wh1, x_wh2, x_wh3, x_wh4, x_wh5, o_add, o_sub, o_neg, o_lt, o_le, o_gt, o_ge, o_eq, o_ne, o_eqB, o_neB, o_int, o_abs, o_max, o_min, o_lenL, o_lenT, o_ix0, o_ix1, o_ixl0, o_ixl1, o_ixl2, o_isi, o_isi2, o_isN, o_notN, o_isB, o_notB, x_A0, x_F0, x_I0, x_A1, x_F1, x_I1, x_A2, x_F2, x_I2, x_A3, x_F3, x_I3, x_A4, x_F4, x_I4, x_A5, x_F5, x_I5, x_A6, x_F6, x_I6, x_A7, x_F7, x_I7, x_A8, x_F8, x_I8, x_wi0, x_wi, x_re0, x_re, x_re1, x_ok0, x_ok, x_ok1, x_ok2, o_not0, x_g0, x_gS, x_s0, x_sS, x_bs, x_bn, x_ms, x_isNnone, x_isNbool, x_isNint, x_isNstr, x_isNlist, x_isNtuple, x_isNdict, x_tyintnone, x_tyintbool, x_tyintint, x_tyintstr, x_tyintlist, x_tyinttuple, x_tyintdict, x_tyboolnone, x_tyboolbool, x_tyboolint, x_tyboolstr, x_tyboollist, x_tybooltuple, x_tybooldict, x_tystrnone, x_tystrbool, x_tystrint, x_tystrstr, x_tystrlist, x_tystrtuple, x_tystrdict, x_tytupnone, x_tytupbool, x_tytupint, x_tytupstr, x_tytuplist, x_tytuptuple, x_tytupdict, x_tylstnone, x_tylstbool, x_tylstint, x_tylststr, x_tylstlist, x_tylsttuple, x_tylstdict, x_tydctnone, x_tydctbool, x_tydctint, x_tydctstr, x_tydctlist, x_tydcttuple, x_tydctdict, x_be0, x_bn0, x_be1, x_bn1, x_be2, x_bn2, x_be3, x_bn3, List.length_cons, List.length_nil, List.map_cons, List.map_nil, List.replicate, List.cons_append, List.nil_append, List.append_nil, startE, pick, List.filterMap_cons, List.filterMap_nil, Bool.or_false, Bool.false_or, Bool.or_true, Bool.true_or, Bool.and_true, Bool.true_and, Bool.and_false, Bool.false_and, Bool.not_true, Bool.not_false, Bool.not_not, decide_true, decide_false, Int.cast_ofNat_Int, Nat.reduceAdd, Nat.zero_add, Int.reduceEq, Int.reduceLT, Int.reduceLE, Int.reduceGT, Int.reduceGE, Int.reduceAdd, Int.reduceSub, Int.reduceMul, Int.reduceNeg, Int.reducePow, Int.reduceToNat]
      · have ht : tightQ (none, some b) r = none := by rw [ht]; simp [hb]
        rw [ht]
        refine ⟨.sh (.bool false), ?_⟩
        simp only [he, s0, hb, eT_n, eI_n, eI_s, x_seq, x_seq1, x_seq2, x_seq3, x_seq4, x_seq5, x_asg, x_asg1, x_asgF, x_asgF1, x_exp, x_exp1, x_ret, x_ret1, x_retF, x_retF1, x_retN, x_skip, x_brk, x_cnt, x_if, x_if1, x_if2, x_and, x_and1, x_and2, x_or, x_or1, x_or2, x_not, x_not1, x_bool, x_bool1, x_andV, x_andV1, x_andV2, x_orV, x_orV1, x_orV2, x_notV, x_notV1, x_ifV, x_ifV1, x_ifV2, x_cE, x_nm, x_nm1, x_nm2, x_rd, x_rd1, x_rd2, x_rd3, x_ev0, x_ev, x_ev1, x_ev2, x_pk, x_pk1, x_pk2, x_pk3, x_vv0, x_vv, x_vv1, x_op, x_op1, x_op2, x_ca, x_ck, x_ci, x_ci0, x_ci1, x_ci2, x_ci3, x_ci4, x_ci5, x_tup, x_tup1, x_lst, x_lst1, x_ch, x_ch1, x_ch2, x_ch3, x_ch4, x_ch5, x_asgT, x_asgT1, x_nx, x_par, x_par1, x_par2, x_par3, x_par31, x_par32, x_par33, x_tn, x_t0, x_tc, x_ts, x_ts0, x_ts1, x_up1, x_up2, x_upO, x_upI, x_app, x_app0, x_app1, x_for, x_for1, x_fl1, x_fl2, x_fl3, x_fl4, x_fl5, x_fl6, x_turn, x_its, x_its1, x_its2, x_its3, x_rg1, x_rg2, x_rg21, x_en, x_en1, x_zp, x_zp1, x_zp2, x_zp3, x_st, x_st0, x_st1, x_st2, x_st3, x_yes, x_lc2, x_rA1, x_rA2, x_rF1, x_rI1, x_rI2, x_wh1, x_wh2, x_wh3, x_wh4, x_wh5, o_add, o_sub, o_neg, o_lt, o_le, o_gt, o_ge, o_eq, o_ne, o_eqB, o_neB, o_int, o_abs, o_max, o_min, o_lenL, o_lenT, o_ix0, o_ix1, o_ixl0, o_ixl1, o_ixl2, o_isi, o_isi2, o_isN, o_notN, o_isB, o_notB, x_A0, x_F0, x_I0, x_A1, x_F1, x_I1, x_A2, x_F2, x_I2, x_A3, x_F3, x_I3, x_A4, x_F4, x_I4, x_A5, x_F5, x_I5, x_A6, x_F6, x_I6, x_A7, x_F7, x_I7, x_A8, x_F8, x_I8, x_wi0, x_wi, x_re0, x_re, x_re1, x_ok0, x_ok, x_ok1, x_ok2, o_not0, x_g0, x_gS, x_s0, x_sS, x_bs, x_bn, x_ms, x_isNnone, x_isNbool, x_isNint, x_isNstr, x_isNlist, x_isNtuple, x_isNdict, x_tyintnone, x_tyintbool, x_tyintint, x_tyintstr, x_tyintlist, x_tyinttuple, x_tyintdict, x_tyboolnone, x_tyboolbool, x_tyboolint, x_tyboolstr, x_tyboollist, x_tybooltuple, x_tybooldict, x_tystrnone, x_tystrbool, x_tystrint, x_tystrstr, x_tystrlist, x_tystrtuple, x_tystrdict, x_tytupnone, x_tytupbool, x_tytupint, x_tytupstr, x_tytuplist, x_tytuptuple, x_tytupdict, x_tylstnone, x_tylstbool, x_tylstint, x_tylststr, x_tylstlist, x_tylsttuple, x_tylstdict, x_tydctnone, x_tydctbool, x_tydctint, x_tydctstr, x_tydctlist, x_tydcttuple, x_tydctdict, x_be0, x_bn0, x_be1, x_bn1, x_be2, x_bn2, x_be3, x_bn3, List.length_cons, List.length_nil, List.map_cons, List.map_nil, List.replicate, List.cons_append, List.nil_append, List.append_nil, startE, pick, List.filterMap_cons, List.filterMap_nil, Bool.or_false, Bool.false_or, Bool.or_true, Bool.true_or, Bool.and_true, Bool.true_and, Bool.and_false, Bool.false_and, Bool.not_true, Bool.not_false, Bool.not_not, decide_true, decide_false, Int.cast_ofNat_Int, Nat.reduceAdd, Nat.zero_add, Int.reduceEq, Int.reduceLT, Int.reduceLE, Int.reduceGT, Int.reduceGE, Int.reduceAdd, Int.reduceSub, Int.reduceMul, Int.reduceNeg, Int.reducePow, Int.reduceToNat]
  | some a => cases b with
    | none =>
      by_cases ha : a ≤ r.1
      · have ht : tightQ (some a, none) r = some (some r.1, some r.1) := by rw [ht]; simp [ha]
        rw [ht]
        refine ⟨.sh (.bool true), ?_⟩
        simp only [he, s1, ha, eT_s, eI_n, eI_s, x_seq, x_seq1, x_seq2, x_seq3, x_seq4, x_seq5, x_asg, x_asg1, x_asgF, x_asgF1, x_exp, x_exp1, x_ret, x_ret1, x_retF, x_retF1, x_retN, x_skip, x_brk, x_cnt, x_if, x_if1, x_if2, x_and, x_and1, x_and2, x_or, x_or1, x_or2, x_not, x_not1, x_bool, x_bool1, x_andV, x_andV1, x_andV2, x_orV, x_orV1, x_orV2, x_notV, x_notV1, x_ifV, x_ifV1, x_ifV2, x_cE, x_nm, x_nm1, x_nm2, x_rd, x_rd1, x_rd2, x_rd3, x_ev0, x_ev, x_ev1, x_ev2, x_pk, x_pk1, x_pk2, x_pk3, x_vv0, x_vv, x_vv1, x_op, x_op1, x_op2, x_ca, x_ck, x_ci, x_ci0, x_ci1, x_ci2, x_ci3, x_ci4, x_ci5, x_tup, x_tup1, x_lst, x_lst1, x_ch, x_ch1, x_ch2, x_ch3, x_ch4, x_ch5, x_asgT, x_asgT1, x_nx, x_par, x_par1, x_par2, x_par3, x_par31, x_par32, x_par33, x_tn, x_t0, x_tc, x_ts, x_ts0, x_ts1, x_up1, x_up2, x_upO, x_upI, x_app, x_app0, x_app1, x_for, x_for1, x_fl1, x_fl2, x_fl3, x_fl4, x_fl5, x_fl6, x_turn, x_its, x_its1, x_its2, x_its3, x_rg1, x_rg2, x_rg21, x_en, x_en1, x_zp, x_zp1, x_zp2, x_zp3, x_st, x_st0, x_st1, x_st2, x_st3, x_yes, x_lc2, x_rA1, x_rA2, x_rF1, x_rI1, x_rI2, x_wh1, x_wh2, x_wh3, x_wh4, x_wh5, o_add, o_sub, o_neg, o_lt, o_le, o_gt, o_ge, o_eq, o_ne, o_eqB, o_neB, o_int, o_abs, o_max, o_min, o_lenL, o_lenT, o_ix0, o_ix1, o_ixl0, o_ixl1, o_ixl2, o_isi, o_isi2, o_isN, o_notN, o_isB, o_notB, x_A0, x_F0, x_I0, x_A1, x_F1, x_I1, x_A2, x_F2, x_I2, x_A3, x_F3, x_I3, x_A4, x_F4, x_I4, x_A5, x_F5, x_I5, x_A6, x_F6, x_I6, x_A7, x_F7, x_I7, x_A8, x_F8, x_I8, x_wi0, x_wi, x_re0, x_re, x_re1, x_ok0, x_ok, x_ok1, x_ok2, o_not0, x_g0, x_gS, x_s0, x_sS, x_bs, x_bn, x_ms, x_isNnone, x_isNbool, x_isNint, x_isNstr, x_isNlist, x_isNtuple, x_isNdict, x_tyintnone, x_tyintbool, x_tyintint, x_tyintstr, x_tyintlist, x_tyinttuple, x_tyintdict, x_tyboolnone, x_tyboolbool, x_tyboolint, x_tyboolstr, x_tyboollist, x_tybooltuple, x_tybooldict, x_tystrnone, x_tystrbool, x_tystrint, x_tystrstr, x_tystrlist, x_tystrtuple, x_tystrdict, x_tytupnone, x_tytupbool, x_tytupint, x_tytupstr, x_tytuplist, x_tytuptuple, x_tytupdict, x_tylstnone, x_tylstbool, x_tylstint, x_tylststr, x_tylstlist, x_tylsttuple, x_tylstdict, x_tydctnone, x_tydctbool, x_tydctint, x_tydctstr, x_tydctlist, x_tydcttuple, x_tydctdict, x_be0, x_bn0, x_be1, x_bn1, x_be2, x_bn2, x_be3, x_bn3, List.length_cons, List.length_nil, List.map_cons, List.map_nil, List.replicate, List.cons_append, List.nil_append, List.append_nil, startE, pick, List.filterMap_cons, List.filterMap_nil, Bool.or_false, Bool.false_or, Bool.or_true, Bool.true_or, Bool.and_true, Bool.true_and, Bool.and_false, Bool.false_and, Bool.not_true, Bool.not_false, Bool.not_not, decide_true, decide_false, Int.cast_ofNat_Int, Nat.reduceAdd, Nat.zero_add, Int.reduceEq, Int.reduceLT, Int.reduceLE, Int.reduceGT, Int.reduceGE, Int.reduceAdd, Int.reduceSub, Int.reduceMul, Int.reduceNeg, Int.reducePow, Int.reduceToNat]
      · have ht : tightQ (some a, none) r = none := by rw [ht]; simp [ha]
        rw [ht]
        refine ⟨.sh (.bool false), ?_⟩
        simp only [he, s0, ha, eT_n, eI_n, eI_s, x_seq, x_seq1, x_seq2, x_seq3, x_seq4, x_seq5, x_asg, x_asg1, x_asgF, x_asgF1, x_exp, x_exp1, x_ret, x_ret1, x_retF, x_retF1, x_retN, x_skip, x_brk, x_cnt, x_if, x_if1, x_if2, x_and, x_and1, x_and2, x_or, x_or1, x_or2, x_not, x_not1, x_bool, x_bool1, x_andV, x_andV1, x_andV2, x_orV, x_orV1, x_orV2, x_notV, x_notV1, x_ifV, x_ifV1, x_ifV2, x_cE, x_nm, x_nm1, x_nm2, x_rd, x_rd1, x_rd2, x_rd3, x_ev0, x_ev, x_ev1, x_ev2, x_pk, x_pk1, x_pk2, x_pk3, x_vv0, x_vv, x_vv1, x_op, x_op1, x_op2, x_ca, x_ck, x_ci, x_ci0, x_ci1, x_ci2, x_ci3, x_ci4, x_ci5, x_tup, x_tup1, x_lst, x_lst1, x_ch, x_ch1, x_ch2, x_ch3, x_ch4, x_ch5, x_asgT, x_asgT1, x_nx, x_par, x_par1, x_par2, x_par3, x_par31, x_par32, x_par33, x_tn, x_t0, x_tc, x_ts, x_ts0, x_ts1, x_up1, x_up2, x_upO, x_upI, x_app, x_app0, x_app1, x_for, x_for1, x_fl1, x_fl2, x_fl3, x_fl4, x_fl5, x_fl6, x_turn, x_its, x_its1, x_its2, x_its3, x_rg1, x_rg2, x_rg21, x_en, x_en1, x_zp, x_zp1, x_zp2, x_zp3, x_st, x_st0, x_st1, x_st2, x_st3, x_yes, x_lc2, x_rA1, x_rA2, x_rF1, x_rI1, x_rI2, x_wh1, x_wh2, x_wh3, x_wh4, x_wh5, o_add, o_sub, o_neg, o_lt, o_le, o_gt, o_ge, o_eq, o_ne, o_eqB, o_neB, o_int, o_abs, o_max, o_min, o_lenL, o_lenT, o_ix0, o_ix1, o_ixl0, o_ixl1, o_ixl2, o_isi, o_isi2, o_isN, o_notN, o_isB, o_notB, x_A0, x_F0, x_I0, x_A1, x_F1, x_I1, x_A2, x_F2, x_I2, x_A3, x_F3, x_I3, x_A4, x_F4, x_I4, x_A5, x_F5, x_I5, x_A6, x_F6, x_I6, x_A7, x_F7, x_I7, x_A8, x_F8, x_I8, x_wi0, x_wi, x_re0, x_re, x_re1, x_ok0, x_ok, x_ok1, x_ok2, o_not0, x_g0, x_gS, x_s0, x_sS, x_bs, x_bn, x_ms, x_isNnone, x_isNbool, x_isNint, x_isNstr, x_isNlist, x_isNtuple, x_isNdict, x_tyintnone, x_tyintbool, x_tyintint, x_tyintstr, x_tyintlist, x_tyinttuple, x_tyintdict, x_tyboolnone, x_tyboolbool, x_tyboolint, x_tyboolstr, x_tyboollist, x_tybooltuple, x_tybooldict, x_tystrnone, x_tystrbool, x_tystrint, x_tystrstr, x_tystrlist, x_tystrtuple, x_tystrdict, x_tytupnone, x_tytupbool, x_tytupint, x_tytupstr, x_tytuplist, x_tytuptuple, x_tytupdict, x_tylstnone, x_tylstbool, x_tylstint, x_tylststr, x_tylstlist, x_tylsttuple, x_tylstdict, x_tydctnone, x_tydctbool, x_tydctint, x_tydctstr, x_tydctlist, x_tydcttuple, x_tydctdict, x_be0, x_bn0, x_be1, x_bn1, x_be2, x_bn2, x_be3, x_bn3, List.length_cons, List.length_nil, List.map_cons, List.map_nil, List.replicate, List.cons_append, List.nil_append, List.append_nil, startE, pick, List.filterMap_cons, List.filterMap_nil, Bool.or_false, Bool.false_or, Bool.or_true, Bool.true_or, Bool.and_true, Bool.true_and, Bool.and_false, Bool.false_and, Bool.not_true, Bool.not_false, Bool.not_not, decide_true, decide_false, Int.cast_ofNat_Int, Nat.reduceAdd, Nat.zero_add, Int.reduceEq, Int.reduceLT, Int.reduceLE, Int.reduceGT, Int.reduceGE, Int.reduceAdd, Int.reduceSub, Int.reduceMul, Int.reduceNeg, Int.reducePow, Int.reduceToNat]
    | some b =>
      by_cases ha : a ≤ r.1
      · by_cases hb : r.1 ≤ b
        · have ht : tightQ (some a, some b) r = some (some r.1, some r.1) := by rw [ht]; simp [ha, hb]
          rw [ht]
          refine ⟨.sh (.bool true), ?_⟩
          simp only [he, s1, ha, hb, eT_s, eI_n, eI_s, x_seq, x_seq1, x_seq2, x_seq3, x_seq4, x_seq5, x_asg, x_asg1, x_asgF, x_asgF1, x_exp, x_exp1, x_ret, x_ret1, x_retF, x_retF1, x_retN, x_skip, x_brk, x_cnt, x_if, x_if1, x_if2, x_and, x_and1, x_and2, x_or, x_or1, x_or2, x_not, x_not1, x_bool, x_bool1, x_andV, x_andV1, x_andV2, x_orV, x_orV1, x_orV2, x_notV, x_notV1, x_ifV, x_ifV1, x_ifV2, x_cE, x_nm, x_nm1, x_nm2, x_rd, x_rd1, x_rd2, x_rd3, x_ev0, x_ev, x_ev1, x_ev2, x_pk, x_pk1, x_pk2, x_pk3, x_vv0, x_vv, x_vv1, x_op, x_op1, x_op2, x_ca, x_ck, x_ci, x_ci0, x_ci1, x_ci2, x_ci3, x_ci4, x_ci5, x_tup, x_tup1, x_lst, x_lst1, x_ch, x_ch1, x_ch2, x_ch3, x_ch4, x_ch5, x_asgT, x_asgT1, x_nx, x_par, x_par1, x_par2, x_par3, x_par31, x_par32, x_par33, x_tn, x_t0, x_tc, x_ts, x_ts0, x_ts1, x_up1, x_up2, x_upO, x_upI, x_app, x_app0, x_app1, x_for, x_for1, x_fl1, x_fl2, x_fl3, x_fl4, x_fl5, x_fl6, x_turn, x_its, x_its1, x_its2, x_its3, x_rg1, x_rg2, x_rg21, x_en, x_en1, x_zp, x_zp1, x_zp2, x_zp3, x_st, x_st0, x_st1, x_st2, x_st3, x_yes, x_lc2, x_rA1, x_rA2, x_rF1, x_rI1, x_rI2, x_wh1, x_wh2, x_wh3, x_wh4, x_wh5, o_add, o_sub, o_neg, o_lt, o_le, o_gt, o_ge, o_eq, o_ne, o_eqB, o_neB, o_int, o_abs, o_max, o_min, o_lenL, o_lenT, o_ix0, o_ix1, o_ixl0, o_ixl1, o_ixl2, o_isi, o_isi2, o_isN, o_notN, o_isB, o_notB, x_A0, x_F0, x_I0, x_A1, x_F1, x_I1, x_A2, x_F2, x_I2, x_A3, x_F3, x_I3, x_A4, x_F4, x_I4, x_A5, x_F5, x_I5, x_A6, x_F6, x_I6, x_A7, x_F7, x_I7, x_A8, x_F8, x_I8, x_wi0, x_wi, x_re0, x_re, x_re1, x_ok0, x_ok, x_ok1, x_ok2, o_not0, x_g0, x_gS, x_s0, x_sS, x_bs, x_bn, x_ms, x_isNnone, x_isNbool, x_isNint, x_isNstr, x_isNlist, x_isNtuple, x_isNdict, x_tyintnone, x_tyintbool, x_tyintint, x_tyintstr, x_tyintlist, x_tyinttuple, x_tyintdict, x_tyboolnone, x_tyboolbool, x_tyboolint, x_tyboolstr, x_tyboollist, x_tybooltuple, x_tybooldict, x_tystrnone, x_tystrbool, x_tystrint, x_tystrstr, x_tystrlist, x_tystrtuple, x_tystrdict, x_tytupnone, x_tytupbool, x_tytupint, x_tytupstr, x_tytuplist, x_tytuptuple, x_tytupdict, x_tylstnone, x_tylstbool, x_tylstint, x_tylststr, x_tylstlist, x_tylsttuple, x_tylstdict, x_tydctnone, x_tydctbool, x_tydctint, x_tydctstr, x_tydctlist, x_tydcttuple, x_tydctdict, x_be0, x_bn0, x_be1, x_bn1, x_be2, x_bn2, x_be3, x_bn3, List.length_cons, List.length_nil, List.map_cons, List.map_nil, List.replicate, List.cons_append, List.nil_append, List.append_nil, startE, pick, List.filterMap_cons, List.filterMap_nil, Bool.or_false, Bool.false_or, Bool.or_true, Bool.true_or, Bool.and_true, Bool.true_and, Bool.and_false, Bool.false_and, Bool.not_true, Bool.not_false, Bool.not_not, decide_true, decide_false, Int.cast_ofNat_Int, Nat.reduceAdd, Nat.zero_add, Int.reduceEq, Int.reduceLT, Int.reduceLE, Int.reduceGT, Int.reduceGE, Int.reduceAdd, Int.reduceSub, Int.reduceMul, Int.reduceNeg, Int.reducePow, Int.reduceToNat]
        · have ht : tightQ (some a, some b) r = none := by rw [ht]; simp [ha, hb]
          rw [ht]
          refine ⟨.sh (.bool false), ?_⟩
          simp only [he, s0, ha, hb, eT_n, eI_n, eI_s, x_seq, x_seq1, x_seq2, x_seq3, x_seq4, x_seq5, x_asg, x_asg1, x_asgF, x_asgF1, x_exp, x_exp1, x_ret, x_ret1, x_retF, x_retF1, x_retN, x_skip, x_brk, x_cnt, x_if, x_if1, x_if2, x_and, x_and1, x_and2, x_or, x_or1, x_or2, x_not, x_not1, x_bool, x_bool1, x_andV, x_andV1, x_andV2, x_orV, x_orV1, x_orV2, x_notV, x_notV1, x_ifV, x_ifV1, x_ifV2, x_cE, x_nm, x_nm1, x_nm2, x_rd, x_rd1, x_rd2, x_rd3, x_ev0, x_ev, x_ev1, x_ev2, x_pk, x_pk1, x_pk2, x_pk3, x_vv0, x_vv, x_vv1, x_op, x_op1, x_op2, x_ca, x_ck, x_ci, x_ci0, x_ci1, x_ci2, x_ci3, x_ci4, x_ci5, x_tup, x_tup1, x_lst, x_lst1, x_ch, x_ch1, x_ch2, x_ch3, x_ch4, x_ch5, x_asgT, x_asgT1, x_nx, x_par, x_par1, x_par2, x_par3, x_par31, x_par32, x_par33, x_tn, x_t0, x_tc, x_ts, x_ts0, x_ts1, x_up1, x_up2, x_upO, x_upI, x_app, x_app0, x_app1, x_for, x_for1, x_fl1, x_fl2, x_fl3, x_fl4, x_fl5, x_fl6, x_turn, x_its, x_its1, x_its2, x_its3, x_rg1, x_rg2, x_rg21, x_en, x_en1, x_zp, x_zp1, x_zp2, x_zp3, x_st, x_st0, x_st1, x_st2, x_st3, x_yes, x_lc2, x_rA1, x_rA2, x_rF1, x_rI1, x_rI2, x_wh1, x_wh2, x_wh3, x_wh4, x_wh5, o_add, o_sub, o_neg, o_lt, o_le, o_gt, o_ge, o_eq, o_ne, o_eqB, o_neB, o_int, o_abs, o_max, o_min, o_lenL, o_lenT, o_ix0, o_ix1, o_ixl0, o_ixl1, o_ixl2, o_isi, o_isi2, o_isN, o_notN, o_isB, o_notB, x_A0, x_F0, x_I0, x_A1, x_F1, x_I1, x_A2, x_F2, x_I2, x_A3, x_F3, x_I3, x_A4, x_F4, x_I4, x_A5, x_F5, x_I5, x_A6, x_F6, x_I6, x_A7, x_F7, x_I7, x_A8, x_F8, x_I8, x_wi0, x_wi, x_re0, x_re, x_re1, x_ok0, x_ok, x_ok1, x_ok2, o_not0, x_g0, x_gS, x_s0, x_sS, x_bs, x_bn, x_ms, x_isNnone, x_isNbool, x_isNint, x_isNstr, x_isNlist, x_isNtuple, x_isNdict, x_tyintnone, x_tyintbool, x_tyintint, x_tyintstr, x_tyintlist, x_tyinttuple, x_tyintdict, x_tyboolnone, x_tyboolbool, x_tyboolint, x_tyboolstr, x_tyboollist, x_tybooltuple, x_tybooldict, x_tystrnone, x_tystrbool, x_tystrint, x_tystrstr, x_tystrlist, x_tystrtuple, x_tystrdict, x_tytupnone, x_tytupbool, x_tytupint, x_tytupstr, x_tytuplist, x_tytuptuple, x_tytupdict, x_tylstnone, x_tylstbool, x_tylstint, x_tylststr, x_tylstlist, x_tylsttuple, x_tylstdict, x_tydctnone, x_tydctbool, x_tydctint, x_tydctstr, x_tydctlist, x_tydcttuple, x_tydctdict, x_be0, x_bn0, x_be1, x_bn1, x_be2, x_bn2, x_be3, x_bn3, List.length_cons, List.length_nil, List.map_cons, List.map_nil, List.replicate, List.cons_append, List.nil_append, List.append_nil, startE, pick, List.filterMap_cons, List.filterMap_nil, Bool.or_false, Bool.false_or, Bool.or_true, Bool.true_or, Bool.and_true, Bool.true_and, Bool.and_false, Bool.false_and, Bool.not_true, Bool.not_false, Bool.not_not, decide_true, decide_false, Int.cast_ofNat_Int, Nat.reduceAdd, Nat.zero_add, Int.reduceEq, Int.reduceLT, Int.reduceLE, Int.reduceGT, Int.reduceGE, Int.reduceAdd, Int.reduceSub, Int.reduceMul, Int.reduceNeg, Int.reducePow, Int.reduceToNat]
      · have ht : tightQ (some a, some b) r = none := by rw [ht]; simp [ha]
        rw [ht]
        refine ⟨.sh (.bool false), ?_⟩
        simp only [he, s0, ha, eT_n, eI_n, eI_s, x_seq, x_seq1, x_seq2, x_seq3, x_seq4, x_seq5, x_asg, x_asg1, x_asgF, x_asgF1, x_exp, x_exp1, x_ret, x_ret1, x_retF, x_retF1, x_retN, x_skip, x_brk, x_cnt, x_if, x_if1, x_if2, x_and, x_and1, x_and2, x_or, x_or1, x_or2, x_not, x_not1, x_bool, x_bool1, x_andV, x_andV1, x_andV2, x_orV, x_orV1, x_orV2, x_notV, x_notV1, x_ifV, x_ifV1, x_ifV2, x_cE, x_nm, x_nm1, x_nm2, x_rd, x_rd1, x_rd2, x_rd3, x_ev0, x_ev, x_ev1, x_ev2, x_pk, x_pk1, x_pk2, x_pk3, x_vv0, x_vv, x_vv1, x_op, x_op1, x_op2, x_ca, x_ck, x_ci, x_ci0, x_ci1, x_ci2, x_ci3, x_ci4, x_ci5, x_tup, x_tup1, x_lst, x_lst1, x_ch, x_ch1, x_ch2, x_ch3, x_ch4, x_ch5, x_asgT, x_asgT1, x_nx, x_par, x_par1, x_par2, x_par3, x_par31, x_par32, x_par33, x_tn, x_t0, x_tc, x_ts, x_ts0, x_ts1, x_up1, x_up2, x_upO, x_upI, x_app, x_app0, x_app1, x_for, x_for1, x_fl1, x_fl2, x_fl3, x_fl4, x_fl5, x_fl6, x_turn, x_its, x_its1, x_its2, x_its3, x_rg1, x_rg2, x_rg21, x_en, x_en1, x_zp, x_zp1, x_zp2, x_zp3, x_st, x_st0, x_st1, x_st2, x_st3, x_yes, x_lc2, x_rA1, x_rA2, x_rF1, x_rI1, x_rI2, x_wh1, x_wh2, x_wh3, x_wh4, x_wh5, o_add, o_sub, o_neg, o_lt, o_le, o_gt, o_ge, o_eq, o_ne, o_eqB, o_neB, o_int, o_abs, o_max, o_min, o_lenL, o_lenT, o_ix0, o_ix1, o_ixl0, o_ixl1, o_ixl2, o_isi, o_isi2, o_isN, o_notN, o_isB, o_notB, x_A0, x_F0, x_I0, x_A1, x_F1, x_I1, x_A2, x_F2, x_I2, x_A3, x_F3, x_I3, x_A4, x_F4, x_I4, x_A5, x_F5, x_I5, x_A6, x_F6, x_I6, x_A7, x_F7, x_I7, x_A8, x_F8, x_I8, x_wi0, x_wi, x_re0, x_re, x_re1, x_ok0, x_ok, x_ok1, x_ok2, o_not0, x_g0, x_gS, x_s0, x_sS, x_bs, x_bn, x_ms, x_isNnone, x_isNbool, x_isNint, x_isNstr, x_isNlist, x_isNtuple, x_isNdict, x_tyintnone, x_tyintbool, x_tyintint, x_tyintstr, x_tyintlist, x_tyinttuple, x_tyintdict, x_tyboolnone, x_tyboolbool, x_tyboolint, x_tyboolstr, x_tyboollist, x_tybooltuple, x_tybooldict, x_tystrnone, x_tystrbool, x_tystrint, x_tystrstr, x_tystrlist, x_tystrtuple, x_tystrdict, x_tytupnone, x_tytupbool, x_tytupint, x_tytupstr, x_tytuplist, x_tytuptuple, x_tytupdict, x_tylstnone, x_tylstbool, x_tylstint, x_tylststr, x_tylstlist, x_tylsttuple, x_tylstdict, x_tydctnone, x_tydctbool, x_tydctint, x_tydctstr, x_tydctlist, x_tydcttuple, x_tydctdict, x_be0, x_bn0, x_be1, x_bn1, x_be2, x_bn2, x_be3, x_bn3, List.length_cons, List.length_nil, List.map_cons, List.map_nil, List.replicate, List.cons_append, List.nil_append, List.append_nil, startE, pick, List.filterMap_cons, List.filterMap_nil, Bool.or_false, Bool.false_or, Bool.or_true, Bool.true_or, Bool.and_true, Bool.true_and, Bool.and_false, Bool.false_and, Bool.not_true, Bool.not_false, Bool.not_not, decide_true, decide_false, Int.cast_ofNat_Int, Nat.reduceAdd, Nat.zero_add, Int.reduceEq, Int.reduceLT, Int.reduceLE, Int.reduceGT, Int.reduceGE, Int.reduceAdd, Int.reduceSub, Int.reduceMul, Int.reduceNeg, Int.reducePow, Int.reduceToNat]
theorem r_7p (he : 0 < r.2) (hB : sp.1.getD low ≤ sp.2.getD low) : ∃ d10, (ifM (boolT (opN eqD [.v (opN ixD [.p 1, .v (cE (.int 1))]), .v (cE (.int 0))])) (seqM (asgM 10 (andV (orV (opN isND [.v (opN ixD [.p 4, .v (cE (.int 0))]), .v (cE .none)]) (opN leD [.v (opN ixD [.p 4, .v (cE (.int 0))]), .v (opN ixD [.p 1, .v (cE (.int 0))])])) (orV (opN isND [.v (opN ixD [.p 4, .v (cE (.int 1))]), .v (cE .none)]) (opN leD [.v (opN ixD [.p 1, .v (cE (.int 0))]), .v (opN ixD [.p 4, .v (cE (.int 1))])])))) (seqM (ifM (notT (boolT (callA (sem__law_same 12) [(nameV 6), (ifV (boolT (nameV 10)) (tupV [(opN ixD [.p 1, .v (cE (.int 0))]), (opN ixD [.p 1, .v (cE (.int 0))])]) (cE .none))]))) (seqM (retM (cE (.bool false))) skipM) skipM) skipM)) (seqM (ifM (notT (boolT (callA (sem__law_same 12) [(nameV 6), (ifV (boolT (opN eqD [.p 9, .v (lstV [])])) (cE .none) (tupV [(ifV (boolT (opN isND [.v (opN ixD [.p 4, .v (cE (.int 0))]), .v (cE .none)])) (cE .none) (opN ixD [.p 9, .v (cE (.int 0))])), (ifV (boolT (opN isND [.v (opN ixD [.p 4, .v (cE (.int 1))]), .v (cE .none)])) (cE .none) (opN ixD [.p 9, .v (opN negD [.v (cE (.int 1))])]))]))]))) (seqM (retM (cE (.bool false))) skipM) skipM) skipM)) [c0, .sh (eR r), c2, .sh (.int low), .sh (eS sp), c5, .sh (eT (tightQ sp r)), c7, c8, .sh (.list ((numsP (pS sp r) (sp.1.getD low - r.2 - 45) (sp.2.getD low + r.2 + 45)).map .int)), c10, .no] =
    some (.nx [c0, .sh (eR r), c2, .sh (.int low), .sh (eS sp), c5, .sh (eT (tightQ sp r)), c7, c8, .sh (.list ((numsP (pS sp r) (sp.1.getD low - r.2 - 45) (sp.2.getD low + r.2 + 45)).map .int)), d10, .no]) := by
  have hne : ¬ r.2 = 0 := by omega
  have lst := tight_list (sp := sp) (r := r) (low := low) he hB
  generalize numsP (pS sp r) (sp.1.getD low - r.2 - 45) (sp.2.getD low + r.2 + 45) = S at *
  have z0 := o_eqL0 S
  have ng : negD [.int 1] = some (.int (-1)) := id rfl
  refine ⟨c10, ?_⟩
  rcases lst with ⟨hS, ht⟩ | ⟨hS, a, b, ht, ha, hb⟩
  · have s0 := same_n 11
    rw [ht]
    have z1 : eqD [.list (S.map .int), .list []] = some (.bool true) := by rw [z0, hS]; rfl
    simp only [hne, z1, s0, eT_n, x_seq, x_seq1, x_seq2, x_seq3, x_seq4, x_seq5, x_asg, x_asg1, x_asgF, x_asgF1, x_exp, x_exp1, x_ret, x_ret1, x_retF, x_retF1, x_retN, x_skip, x_brk, x_cnt, x_if, x_if1, x_if2, x_and, x_and1, x_and2, x_or, x_or1, x_or2, x_not, x_not1, x_bool, x_bool1, x_andV, x_andV1, x_andV2, x_orV, x_orV1, x_orV2, x_notV, x_notV1, x_ifV, x_ifV1, x_ifV2, x_cE, x_nm, x_nm1, x_nm2, x_rd, x_rd1, x_rd2, x_rd3, x_ev0, x_ev, x_ev1, x_ev2, x_pk, x_pk1, x_pk2, x_pk3, x_vv0, x_vv, x_vv1, x_op, x_op1, x_op2, x_ca, x_ck, x_ci, x_ci0, x_ci1, x_ci2, x_ci3, x_ci4, x_ci5, x_tup, x_tup1, x_lst, x_lst1, x_ch, x_ch1, x_ch2, x_ch3, x_ch4, x_ch5, x_asgT, x_asgT1, x_nx, x_par, x_par1, x_par2, x_par3, x_par31, x_par32, x_par33, x_tn, x_t0, x_tc, x_ts, x_ts0, x_ts1, x_up1, x_up2, x_upO, x_upI, x_app, x_app0, x_app1, x_for, x_for1, x_fl1, x_fl2, x_fl3, x_fl4, x_fl5, x_fl6, x_turn, x_its, x_its1, x_its2, x_its3, x_rg1, x_rg2, x_rg21, x_en, x_en1, x_zp, x_zp1, x_zp2, x_zp3, x_st, x_st0, x_st1, x_st2, x_st3, x_yes, x_lc2, x_rA1, x_rA2, x_rF1, x_rI1, x_rI2, x_wh1, x_wh2, x_wh3, x_wh4, x_wh5, o_add, o_sub, o_neg, o_lt, o_le, o_gt, o_ge, o_eq, o_ne, o_eqB, o_neB, o_int, o_abs, o_max, o_min, o_lenL, o_lenT, o_ix0, o_ix1, o_ixl0, o_ixl1, o_ixl2, o_isi, o_isi2, o_isN, o_notN, o_isB, o_notB, x_A0, x_F0, x_I0, x_A1, x_F1, x_I1, x_A2, x_F2, x_I2, x_A3, x_F3, x_I3, x_A4, x_F4, x_I4, x_A5, x_F5, x_I5, x_A6, x_F6, x_I6, x_A7, x_F7, x_I7, x_A8, x_F8, x_I8, x_wi0, x_wi, x_re0, x_re, x_re1, x_ok0, x_ok, x_ok1, x_ok2, o_not0, x_g0, x_gS, x_s0, x_sS, x_bs, x_bn, x_ms, x_isNnone, x_isNbool, x_isNint, x_isNstr, x_isNlist, x_isNtuple, x_isNdict, x_tyintnone, x_tyintbool, x_tyintint, x_tyintstr, x_tyintlist, x_tyinttuple, x_tyintdict, x_tyboolnone, x_tyboolbool, x_tyboolint, x_tyboolstr, x_tyboollist, x_tybooltuple, x_tybooldict, x_tystrnone, x_tystrbool, x_tystrint, x_tystrstr, x_tystrlist, x_tystrtuple, x_tystrdict, x_tytupnone, x_tytupbool, x_tytupint, x_tytupstr, x_tytuplist, x_tytuptuple, x_tytupdict, x_tylstnone, x_tylstbool, x_tylstint, x_tylststr, x_tylstlist, x_tylsttuple, x_tylstdict, x_tydctnone, x_tydctbool, x_tydctint, x_tydctstr, x_tydctlist, x_tydcttuple, x_tydctdict, x_be0, x_bn0, x_be1, x_bn1, x_be2, x_bn2, x_be3, x_bn3, List.length_cons, List.length_nil, List.map_cons, List.map_nil, List.replicate, List.cons_append, List.nil_append, List.append_nil, startE, pick, List.filterMap_cons, List.filterMap_nil, Bool.or_false, Bool.false_or, Bool.or_true, Bool.true_or, Bool.and_true, Bool.true_and, Bool.and_false, Bool.false_and, Bool.not_true, Bool.not_false, Bool.not_not, decide_true, decide_false, Int.cast_ofNat_Int, Nat.reduceAdd, Nat.zero_add, Int.reduceEq, Int.reduceLT, Int.reduceLE, Int.reduceGT, Int.reduceGE, Int.reduceAdd, Int.reduceSub, Int.reduceMul, Int.reduceNeg, Int.reducePow, Int.reduceToNat]
  · have s2 := e_same 11 (eT (some (a, b))) (okS_eT _ _)
    have z1 : eqD [.list (S.map .int), .list []] = some (.bool false) := by rw [z0, decide_eq_false hS]
    rw [ht]
    rw [eT_s] at s2 ⊢
    obtain ⟨p, q⟩ := sp
    simp only at ha hb
    have i0 : ∀ x t, S = x :: t → ixD [.list (S.map .int), .int 0] = some (.int x) := fun x t e => by rw [e]; exact ix_first x t
    have i1 : ∀ x t, S = t ++ [x] → ixD [.list (S.map .int), .int (-1)] = some (.int x) := fun x t e => by rw [e]; exact ix_last x t
    rcases ha with ⟨rfl, rfl⟩ | ⟨a0, x, t, rfl, rfl, hx⟩
    · rcases hb with ⟨rfl, rfl⟩ | ⟨b0, y, u, rfl, rfl, hy⟩
      · rw [eI_n] at s2
        simp only [hne, z1, s2, eI_n, x_seq, x_seq1, x_seq2, x_seq3, x_seq4, x_seq5, x_asg, x_asg1, x_asgF, x_asgF1, x_exp, x_exp1, x_ret, x_ret1, x_retF, x_retF1, x_retN, x_skip, x_brk, x_cnt, x_if, x_if1, x_if2, x_and, x_and1, x_and2, x_or, x_or1, x_or2, x_not, x_not1, x_bool, x_bool1, x_andV, x_andV1, x_andV2, x_orV, x_orV1, x_orV2, x_notV, x_notV1, x_ifV, x_ifV1, x_ifV2, x_cE, x_nm, x_nm1, x_nm2, x_rd, x_rd1, x_rd2, x_rd3, x_ev0, x_ev, x_ev1, x_ev2, x_pk, x_pk1, x_pk2, x_pk3, x_vv0, x_vv, x_vv1, x_op, x_op1, x_op2, x_ca, x_ck, x_ci, x_ci0, x_ci1, x_ci2, x_ci3, x_ci4, x_ci5, x_tup, x_tup1, x_lst, x_lst1, x_ch, x_ch1, x_ch2, x_ch3, x_ch4, x_ch5, x_asgT, x_asgT1, x_nx, x_par, x_par1, x_par2, x_par3, x_par31, x_par32, x_par33, x_tn, x_t0, x_tc, x_ts, x_ts0, x_ts1, x_up1, x_up2, x_upO, x_upI, x_app, x_app0, x_app1, x_for, x_for1, x_fl1, x_fl2, x_fl3, x_fl4, x_fl5, x_fl6, x_turn, x_its, x_its1, x_its2, x_its3, x_rg1, x_rg2, x_rg21, x_en, x_en1, x_zp, x_zp1, x_zp2, x_zp3, x_st, x_st0, x_st1, x_st2, x_st3, x_yes, x_lc2, x_rA1, x_rA2, x_rF1, x_rI1, x_rI2, x_wh1, x_wh2, x_wh3, x_wh4, x_wh5, o_add, o_sub, o_neg, o_lt, o_le, o_gt, o_ge, o_eq, o_ne, o_eqB, o_neB, o_int, o_abs, o_max, o_min, o_lenL, o_lenT, o_ix0, o_ix1, o_ixl0, o_ixl1, o_ixl2, o_isi, o_isi2, o_isN, o_notN, o_isB, o_notB, x_A0, x_F0, x_I0, x_A1, x_F1, x_I1, x_A2, x_F2, x_I2, x_A3, x_F3, x_I3, x_A4, x_F4, x_I4, x_A5, x_F5, x_I5, x_A6, x_F6, x_I6, x_A7, x_F7, x_I7, x_A8, x_F8, x_I8, x_wi0, x_wi, x_re0, x_re, x_re1, x_ok0, x_ok, x_ok1, x_ok2, o_not0, x_g0, x_gS, x_s0, x_sS, x_bs, x_bn, x_ms, x_isNnone, x_isNbool, x_isNint, x_isNstr, x_isNlist, x_isNtuple, x_isNdict, x_tyintnone, x_tyintbool, x_tyintint, x_tyintstr, x_tyintlist, x_tyinttuple, x_tyintdict, x_tyboolnone, x_tyboolbool, x_tyboolint, x_tyboolstr, x_tyboollist, x_tybooltuple, x_tybooldict, x_tystrnone, x_tystrbool, x_tystrint, x_tystrstr, x_tystrlist, x_tystrtuple, x_tystrdict, x_tytupnone, x_tytupbool, x_tytupint, x_tytupstr, x_tytuplist, x_tytuptuple, x_tytupdict, x_tylstnone, x_tylstbool, x_tylstint, x_tylststr, x_tylstlist, x_tylsttuple, x_tylstdict, x_tydctnone, x_tydctbool, x_tydctint, x_tydctstr, x_tydctlist, x_tydcttuple, x_tydctdict, x_be0, x_bn0, x_be1, x_bn1, x_be2, x_bn2, x_be3, x_bn3, List.length_cons, List.length_nil, List.map_cons, List.map_nil, List.replicate, List.cons_append, List.nil_append, List.append_nil, startE, pick, List.filterMap_cons, List.filterMap_nil, Bool.or_false, Bool.false_or, Bool.or_true, Bool.true_or, Bool.and_true, Bool.true_and, Bool.and_false, Bool.false_and, Bool.not_true, Bool.not_false, Bool.not_not, decide_true, decide_false, Int.cast_ofNat_Int, Nat.reduceAdd, Nat.zero_add, Int.reduceEq, Int.reduceLT, Int.reduceLE, Int.reduceGT, Int.reduceGE, Int.reduceAdd, Int.reduceSub, Int.reduceMul, Int.reduceNeg, Int.reducePow, Int.reduceToNat]
      · have i1 := i1 y u hy
        rw [eI_n, eI_s] at s2
        simp only [hne, z1, i1, ng, s2, eI_n, eI_s, x_seq, x_seq1, x_seq2, x_seq3, x_seq4, x_seq5, x_asg, x_asg1, x_asgF, x_asgF1, x_exp, x_exp1, x_ret, x_ret1, x_retF, x_retF1, x_retN, x_skip, x_brk, x_cnt, x_if, x_if1, x_if2, x_and, x_and1, x_and2, x_or, x_or1, x_or2, x_not, x_not1, x_bool, x_bool1, x_andV, x_andV1, x_andV2, x_orV, x_orV1, x_orV2, x_notV, x_notV1, x_ifV, x_ifV1, x_ifV2, x_cE, x_nm, x_nm1, x_nm2, x_rd, x_rd1, x_rd2, x_rd3, x_ev0, x_ev, x_ev1, x_ev2, x_pk, x_pk1, x_pk2, x_pk3, x_vv0, x_vv, x_vv1, x_op, x_op1, x_op2, x_ca, x_ck, x_ci, x_ci0, x_ci1, x_ci2, x_ci3, x_ci4, x_ci5, x_tup, x_tup1, x_lst, x_lst1, x_ch, x_ch1, x_ch2, x_ch3, x_ch4, x_ch5, x_asgT, x_asgT1, x_nx, x_par, x_par1, x_par2, x_par3, x_par31, x_par32, x_par33, x_tn, x_t0, x_tc, x_ts, x_ts0, x_ts1, x_up1, x_up2, x_upO, x_upI, x_app, x_app0, x_app1, x_for, x_for1, x_fl1, x_fl2, x_fl3, x_fl4, x_fl5, x_fl6, x_turn, x_its, x_its1, x_its2, x_its3, x_rg1, x_rg2, x_rg21, x_en, x_en1, x_zp, x_zp1, x_zp2, x_zp3, x_st, x_st0, x_st1, x_st2, x_st3, x_yes, x_lc2, x_rA1, x_rA2, x_rF1, x_rI1, x_rI2, x_wh1, x_wh2, x_wh3, x_wh4, x_wh5, o_add, o_sub, o_neg, o_lt, o_le, o_gt, o_ge, o_eq, o_ne, o_eqB, o_neB, o_int, o_abs, o_max, o_min, o_lenL, o_lenT, o_ix0, o_ix1, o_ixl0, o_ixl1, o_ixl2, o_isi, o_isi2, o_isN, o_notN, o_isB, o_notB, x_A0, x_F0, x_I0, x_A1, x_F1, x_I1, x_A2, x_F2, x_I2, x_A3, x_F3, x_I3, x_A4, x_F4, x_I4, x_A5, x_F5, x_I5, x_A6, x_F6, x_I6, x_A7, x_F7, x_I7, x_A8, x_F8, x_I8, x_wi0, x_wi, x_re0, x_re, x_re1, x_ok0, x_ok, x_ok1, x_ok2, o_not0, x_g0, x_gS, x_s0, x_sS, x_bs, x_bn, x_ms, x_isNnone, x_isNbool, x_isNint, x_isNstr, x_isNlist, x_isNtuple, x_isNdict, x_tyintnone, x_tyintbool, x_tyintint, x_tyintstr, x_tyintlist, x_tyinttuple, x_tyintdict, x_tyboolnone, x_tyboolbool, x_tyboolint, x_tyboolstr, x_tyboollist, x_tybooltuple, x_tybooldict, x_tystrnone, x_tystrbool, x_tystrint, x_tystrstr, x_tystrlist, x_tystrtuple, x_tystrdict, x_tytupnone, x_tytupbool, x_tytupint, x_tytupstr, x_tytuplist, x_tytuptuple, x_tytupdict, x_tylstnone, x_tylstbool, x_tylstint, x_tylststr, x_tylstlist, x_tylsttuple, x_tylstdict, x_tydctnone, x_tydctbool, x_tydctint, x_tydctstr, x_tydctlist, x_tydcttuple, x_tydctdict, x_be0, x_bn0, x_be1, x_bn1, x_be2, x_bn2, x_be3, x_bn3, List.length_cons, List.length_nil, List.map_cons, List.map_nil, List.replicate, List.cons_append, List.nil_append, List.append_nil, startE, pick, List.filterMap_cons, List.filterMap_nil, Bool.or_false, Bool.false_or, Bool.or_true, Bool.true_or, Bool.and_true, Bool.true_and, Bool.and_false, Bool.false_and, Bool.not_true, Bool.not_false, Bool.not_not, decide_true, decide_false, Int.cast_ofNat_Int, Nat.reduceAdd, Nat.zero_add, Int.reduceEq, Int.reduceLT, Int.reduceLE, Int.reduceGT, Int.reduceGE, Int.reduceAdd, Int.reduceSub, Int.reduceMul, Int.reduceNeg, Int.reducePow, Int.reduceToNat]
    · have i0 := i0 x t hx
      rcases hb with ⟨rfl, rfl⟩ | ⟨b0, y, u, rfl, rfl, hy⟩
      · rw [eI_n, eI_s] at s2
        simp only [hne, z1, i0, s2, eI_n, eI_s, x_seq, x_seq1, x_seq2, x_seq3, x_seq4, x_seq5, x_asg, x_asg1, x_asgF, x_asgF1, x_exp, x_exp1, x_ret, x_ret1, x_retF, x_retF1, x_retN, x_skip, x_brk, x_cnt, x_if, x_if1, x_if2, x_and, x_and1, x_and2, x_or, x_or1, x_or2, x_not, x_not1, x_bool, x_bool1, x_andV, x_andV1, x_andV2, x_orV, x_orV1, x_orV2, x_notV, x_notV1, x_ifV, x_ifV1, x_ifV2, x_cE, x_nm, x_nm1, x_nm2, x_rd, x_rd1, x_rd2, x_rd3, x_ev0, x_ev, x_ev1, x_ev2, x_pk, x_pk1, x_pk2, x_pk3, x_vv0, x_vv, x_vv1, x_op, x_op1, x_op2, x_ca, x_ck, x_ci, x_ci0, x_ci1, x_ci2, x_ci3, x_ci4, x_ci5, x_tup, x_tup1, x_lst, x_lst1, x_ch, x_ch1, x_ch2, x_ch3, x_ch4, x_ch5, x_asgT, x_asgT1, x_nx, x_par, x_par1, x_par2, x_par3, x_par31, x_par32, x_par33, x_tn, x_t0, x_tc, x_ts, x_ts0, x_ts1, x_up1, x_up2, x_upO, x_upI, x_app, x_app0, x_app1, x_for, x_for1, x_fl1, x_fl2, x_fl3, x_fl4, x_fl5, x_fl6, x_turn, x_its, x_its1, x_its2, x_its3, x_rg1, x_rg2, x_rg21, x_en, x_en1, x_zp, x_zp1, x_zp2, x_zp3, x_st, x_st0, x_st1, x_st2, x_st3, x_yes, x_lc2, x_rA1, x_rA2, x_rF1, x_rI1, x_rI2, x_wh1, x_wh2, x_wh3, x_wh4, x_wh5, o_add, o_sub, o_neg, o_lt, o_le, o_gt, o_ge, o_eq, o_ne, o_eqB, o_neB, o_int, o_abs, o_max, o_min, o_lenL, o_lenT, o_ix0, o_ix1, o_ixl0, o_ixl1, o_ixl2, o_isi, o_isi2, o_isN, o_notN, o_isB, o_notB, x_A0, x_F0, x_I0, x_A1, x_F1, x_I1, x_A2, x_F2, x_I2, x_A3, x_F3, x_I3, x_A4, x_F4, x_I4, x_A5, x_F5, x_I5, x_A6, x_F6, x_I6, x_A7, x_F7, x_I7, x_A8, x_F8, x_I8, x_wi0, x_wi, x_re0, x_re, x_re1, x_ok0, x_ok, x_ok1, x_ok2, o_not0, x_g0, x_gS, x_s0, x_sS, x_bs, x_bn, x_ms, x_isNnone, x_isNbool, x_isNint, x_isNstr, x_isNlist, x_isNtuple, x_isNdict, x_tyintnone, x_tyintbool, x_tyintint, x_tyintstr, x_tyintlist, x_tyinttuple, x_tyintdict, x_tyboolnone, x_tyboolbool, x_tyboolint, x_tyboolstr, x_tyboollist, x_tybooltuple, x_tybooldict, x_tystrnone, x_tystrbool, x_tystrint, x_tystrstr, x_tystrlist, x_tystrtuple, x_tystrdict, x_tytupnone, x_tytupbool, x_tytupint, x_tytupstr, x_tytuplist, x_tytuptuple, x_tytupdict, x_tylstnone, x_tylstbool, x_tylstint, x_tylststr, x_tylstlist, x_tylsttuple, x_tylstdict, x_tydctnone, x_tydctbool, x_tydctint, x_tydctstr, x_tydctlist, x_tydcttuple, x_tydctdict, x_be0, x_bn0, x_be1, x_bn1, x_be2, x_bn2, x_be3, x_bn3, List.length_cons, List.length_nil, List.map_cons, List.map_nil, List.replicate, List.cons_append, List.nil_append, List.append_nil, startE, pick, List.filterMap_cons, List.filterMap_nil, Bool.or_false, Bool.false_or, Bool.or_true, Bool.true_or, Bool.and_true, Bool.true_and, Bool.and_false, Bool.false_and, Bool.not_true, Bool.not_false, Bool.not_not, decide_true, decide_false, Int.cast_ofNat_Int, Nat.reduceAdd, Nat.zero_add, Int.reduceEq, Int.reduceLT, Int.reduceLE, Int.reduceGT, Int.reduceGE, Int.reduceAdd, Int.reduceSub, Int.reduceMul, Int.reduceNeg, Int.reducePow, Int.reduceToNat]
      · have i1 := i1 y u hy
        rw [eI_s, eI_s] at s2
        simp only [hne, z1, i0, i1, ng, s2, eI_n, eI_s, x_seq, x_seq1, x_seq2, x_seq3, x_seq4, x_seq5, x_asg, x_asg1, x_asgF, x_asgF1, x_exp, x_exp1, x_ret, x_ret1, x_retF, x_retF1, x_retN, x_skip, x_brk, x_cnt, x_if, x_if1, x_if2, x_and, x_and1, x_and2, x_or, x_or1, x_or2, x_not, x_not1, x_bool, x_bool1, x_andV, x_andV1, x_andV2, x_orV, x_orV1, x_orV2, x_notV, x_notV1, x_ifV, x_ifV1, x_ifV2, x_cE, x_nm, x_nm1, x_nm2, x_rd, x_rd1, x_rd2, x_rd3, x_ev0, x_ev, x_ev1, x_ev2, x_pk, x_pk1, x_pk2, x_pk3, x_vv0, x_vv, x_vv1, x_op, x_op1, x_op2, x_ca, x_ck, x_ci, x_ci0, x_ci1, x_ci2, x_ci3, x_ci4, x_ci5, x_tup, x_tup1, x_lst, x_lst1, x_ch, x_ch1, x_ch2, x_ch3, x_ch4, x_ch5, x_asgT, x_asgT1, x_nx, x_par, x_par1, x_par2, x_par3, x_par31, x_par32, x_par33, x_tn, x_t0, x_tc, x_ts, x_ts0, x_ts1, x_up1, x_up2, x_upO, x_upI, x_app, x_app0, x_app1, x_for, x_for1, x_fl1, x_fl2, x_fl3, x_fl4, x_fl5, x_fl6, x_turn, x_its, x_its1, x_its2, x_its3, x_rg1, x_rg2, x_rg21, x_en, x_en1, x_zp, x_zp1, x_zp2, x_zp3, x_st, x_st0, x_st1, x_st2, x_st3, x_yes, x_lc2, x_rA1, x_rA2, x_rF1, x_rI1, x_rI2, x_wh1, x_wh2, x_wh3, x_wh4, x_wh5, o_add, o_sub, o_neg, o_lt, o_le, o_gt, o_ge, o_eq, o_ne, o_eqB, o_neB, o_int, o_abs, o_max, o_min, o_lenL, o_lenT, o_ix0, o_ix1, o_ixl0, o_ixl1, o_ixl2, o_isi, o_isi2, o_isN, o_notN, o_isB, o_notB, x_A0, x_F0, x_I0, x_A1, x_F1, x_I1, x_A2, x_F2, x_I2, x_A3, x_F3, x_I3, x_A4, x_F4, x_I4, x_A5, x_F5, x_I5, x_A6, x_F6, x_I6, x_A7, x_F7, x_I7, x_A8, x_F8, x_I8, x_wi0, x_wi, x_re0, x_re, x_re1, x_ok0, x_ok, x_ok1, x_ok2, o_not0, x_g0, x_gS, x_s0, x_sS, x_bs, x_bn, x_ms, x_isNnone, x_isNbool, x_isNint, x_isNstr, x_isNlist, x_isNtuple, x_isNdict, x_tyintnone, x_tyintbool, x_tyintint, x_tyintstr, x_tyintlist, x_tyinttuple, x_tyintdict, x_tyboolnone, x_tyboolbool, x_tyboolint, x_tyboolstr, x_tyboollist, x_tybooltuple, x_tybooldict, x_tystrnone, x_tystrbool, x_tystrint, x_tystrstr, x_tystrlist, x_tystrtuple, x_tystrdict, x_tytupnone, x_tytupbool, x_tytupint, x_tytupstr, x_tytuplist, x_tytuptuple, x_tytupdict, x_tylstnone, x_tylstbool, x_tylstint, x_tylststr, x_tylstlist, x_tylsttuple, x_tylstdict, x_tydctnone, x_tydctbool, x_tydctint, x_tydctstr, x_tydctlist, x_tydcttuple, x_tydctdict, x_be0, x_bn0, x_be1, x_bn1, x_be2, x_bn2, x_be3, x_bn3, List.length_cons, List.length_nil, List.map_cons, List.map_nil, List.replicate, List.cons_append, List.nil_append, List.append_nil, startE, pick, List.filterMap_cons, List.filterMap_nil, Bool.or_false, Bool.false_or, Bool.or_true, Bool.true_or, Bool.and_true, Bool.true_and, Bool.and_false, Bool.false_and, Bool.not_true, Bool.not_false, Bool.not_not, decide_true, decide_false, Int.cast_ofNat_Int, Nat.reduceAdd, Nat.zero_add, Int.reduceEq, Int.reduceLT, Int.reduceLE, Int.reduceGT, Int.reduceGE, Int.reduceAdd, Int.reduceSub, Int.reduceMul, Int.reduceNeg, Int.reducePow, Int.reduceToNat]
theorem e_fbr (c6 c9 : Cell) (hr : Can r.1 r.2) (hs : r.2 ≤ 12) (h : Rng sp) (hB : sp.1.getD low ≤ sp.2.getD low) (b1 : -200 ≤ sp.1.getD low) (b2 : sp.2.getD low ≤ 200) :
    ∃ d5 d6 d7 d8 d9 d10, fb__law_range_right_5 [c0, .sh (eR r), c2, .sh (.int low), .sh (eS sp), c5, c6, c7, c8, c9, c10, .no] = some (.nx [c0, .sh (eR r), c2, .sh (.int low), .sh (eS sp), d5, d6, d7, d8, d9, d10, .no]) := by
  rw [fb__law_range_right_5, x_seq, r_1, x_bs, x_seq1, x_seq, r_2 (h := h), x_bs, x_seq1, x_seq, r_3 (h := h) (hr := hr), x_bs, x_seq1, x_seq, r_4 (h := h) (hr := hr), x_bs, x_seq1, x_seq, r_5, x_bs, x_seq1, x_seq, r_6 (hr := hr) (hs := hs) (hB := hB) (b1 := b1) (b2 := b2), x_bs, x_seq1, x_seq]
  by_cases e : r.2 = 0
  · obtain ⟨d10, e7⟩ := r_7z c0 c2 (.sh (eR (spanQ sp))) (.sh (.int (sp.1.getD low))) (.sh (.int (sp.2.getD low))) c10 sp r low e (.sh (.list ((numsP (pS sp r) (sp.1.getD low - r.2 - 45) (sp.2.getD low + r.2 + 45)).map .int)))
    rw [e7]
    exact ⟨_, _, _, _, _, _, rfl⟩
  · obtain ⟨d10, e7⟩ := r_7p c0 c2 (.sh (eR (spanQ sp))) (.sh (.int (sp.1.getD low))) (.sh (.int (sp.2.getD low))) c10 sp r low (by have := hr.1; omega) hB
    rw [e7]
    exact ⟨_, _, _, _, _, _, rfl⟩
end
end LW

set_option maxRecDepth 20000
set_option maxHeartbeats 0
namespace LW
open PySem PySem.Spec PyProof.Rows L2 MP RT
theorem e_range_right {n : Nat} {c : D} {r : Int × Int} (h : Gen n c) (hn : n < 1099511626000) (hr : Can r.1 r.2) (hs : r.2 ≤ 12) : ∃ c', sem__law_range_right c [eR r, .int 60] = some (.bool true, c') ∧ Gen (n + 10) c' := by
  obtain ⟨x, c1, e1, x0, x1, g1⟩ := e_random (b := 121) h (by omega) (by decide) (by decide)
  obtain ⟨y, c2, e2, y0, y1, g2⟩ := e_random (b := 40) g1 (by omega) (by decide) (by decide)
  have mu := o_mul (i := 2) (j := 60) (lim (by decide)) (lim (by decide))
  have key : ∃ d4 d5 d6 d7 d8 d9 d10, forL (tgName 4) fb__law_range_right_5 ([(some (x - 60), some (x - 60)), (some (x - 60), some (x - 60 + 1 + y)), (none, some (x - 60)), (some (x - 60), none), (none, none)].map eS) [.io c2, .sh (eR r), .sh (.int 60), .sh (.int (x - 60)), .no, .no, .no, .no, .no, .no, .no, .no] =
      some (.nx [.io c2, .sh (eR r), .sh (.int 60), .sh (.int (x - 60)), d4, d5, d6, d7, d8, d9, d10, .no]) := by
    obtain ⟨ρ', e, d4, d5, d6, d7, d8, d9, d10, rfl⟩ := forL_inv (t := tgName 4) (b := fb__law_range_right_5) (fun _ ρ => ∃ d4 d5 d6 d7 d8 d9 d10, ρ = [.io c2, .sh (eR r), .sh (.int 60), .sh (.int (x - 60)), d4, d5, d6, d7, d8, d9, d10, .no]) ([(some (x - 60), some (x - 60)), (some (x - 60), some (x - 60 + 1 + y)), (none, some (x - 60)), (some (x - 60), none), (none, none)].map eS) 0 _ ⟨_, _, _, _, _, _, _, rfl⟩ (by
      rintro j d ρ hd ⟨d4, d5, d6, d7, d8, d9, d10, rfl⟩
      rw [List.getElem?_map] at hd
      obtain ⟨sp, hsp, rfl⟩ := Option.map_eq_some_iff.mp hd
      have hm := List.mem_of_getElem? hsp
      have ok : Rng sp ∧ sp.1.getD (x - 60) ≤ sp.2.getD (x - 60) ∧ -200 ≤ sp.1.getD (x - 60) ∧ sp.2.getD (x - 60) ≤ 200 := by
        simp only [List.mem_cons, List.not_mem_nil, or_false] at hm
        rcases hm with z | z | z | z | z <;> subst z
        · exact ⟨Int.le_refl _, Int.le_refl _, by show -200 ≤ x - 60; omega, by show x - 60 ≤ 200; omega⟩
        · exact ⟨by show x - 60 ≤ x - 60 + 1 + y; omega, by show x - 60 ≤ x - 60 + 1 + y; omega, by show -200 ≤ x - 60; omega, by show x - 60 + 1 + y ≤ 200; omega⟩
        · exact ⟨trivial, Int.le_refl _, by show -200 ≤ x - 60; omega, by show x - 60 ≤ 200; omega⟩
        · exact ⟨trivial, Int.le_refl _, by show -200 ≤ x - 60; omega, by show x - 60 ≤ 200; omega⟩
        · exact ⟨trivial, Int.le_refl _, by show -200 ≤ x - 60; omega, by show x - 60 ≤ 200; omega⟩
      obtain ⟨f5, f6, f7, f8, f9, f10, ef⟩ := e_fbr (.io c2) (.sh (.int 60)) d5 d7 d8 d10 sp r (x - 60) d6 d9 hr hs ok.1 ok.2.1 ok.2.2.1 ok.2.2.2
      refine ⟨_, .inl ?_, .sh (eS sp), f5, f6, f7, f8, f9, f10, rfl⟩
      rw [x_turn, x_tn, x_bs]
      exact ef)
    exact ⟨d4, d5, d6, d7, d8, d9, d10, e⟩
  obtain ⟨d4, d5, d6, d7, d8, d9, d10, k⟩ := key
  simp only [eS, List.map_cons, List.map_nil, eI_n, eI_s] at k
  refine ⟨c2, ?_, g2.mono (by omega)⟩
  rw [sem__law_range_right, g__law_range_right]
  simp only [e1, e2, mu, k, x_seq, x_seq1, x_seq2, x_seq3, x_seq4, x_seq5, x_asg, x_asg1, x_asgF, x_asgF1, x_exp, x_exp1, x_ret, x_ret1, x_retF, x_retF1, x_retN, x_skip, x_brk, x_cnt, x_if, x_if1, x_if2, x_and, x_and1, x_and2, x_or, x_or1, x_or2, x_not, x_not1, x_bool, x_bool1, x_andV, x_andV1, x_andV2, x_orV, x_orV1, x_orV2, x_notV, x_notV1, x_ifV, x_ifV1, x_ifV2, x_cE, x_nm, x_nm1, x_nm2, x_rd, x_rd1, x_rd2, x_rd3, x_ev0, x_ev, x_ev1, x_ev2, x_pk, x_pk1, x_pk2, x_pk3, x_vv0, x_vv, x_vv1, x_op, x_op1, x_op2, x_ca, x_ck, x_ci, x_ci0, x_ci1, x_ci2, x_ci3, x_ci4, x_ci5, x_tup, x_tup1, x_lst, x_lst1, x_ch, x_ch1, x_ch2, x_ch3, x_ch4, x_ch5, x_asgT, x_asgT1, x_nx, x_par, x_par1, x_par2, x_par3, x_par31, x_par32, x_par33, x_tn, x_t0, x_tc, x_ts, x_ts0, x_ts1, x_up1, x_up2, x_upO, x_upI, x_app, x_app0, x_app1, x_for, x_for1, x_fl1, x_fl2, x_fl3, x_fl4, x_fl5, x_fl6, x_turn, x_its, x_its1, x_its2, x_its3, x_rg1, x_rg2, x_rg21, x_en, x_en1, x_zp, x_zp1, x_zp2, x_zp3, x_st, x_st0, x_st1, x_st2, x_st3, x_yes, x_lc2, x_rA1, x_rA2, x_rF1, x_rI1, x_rI2, x_wh1, x_wh2, x_wh3, x_wh4, x_wh5, o_add, o_sub, o_neg, o_lt, o_le, o_gt, o_ge, o_eq, o_ne, o_eqB, o_neB, o_int, o_abs, o_max, o_min, o_lenL, o_lenT, o_ix0, o_ix1, o_ixl0, o_ixl1, o_ixl2, o_isi, o_isi2, o_isN, o_notN, o_isB, o_notB, x_A0, x_F0, x_I0, x_A1, x_F1, x_I1, x_A2, x_F2, x_I2, x_A3, x_F3, x_I3, x_A4, x_F4, x_I4, x_A5, x_F5, x_I5, x_A6, x_F6, x_I6, x_A7, x_F7, x_I7, x_A8, x_F8, x_I8, x_wi0, x_wi, x_re0, x_re, x_re1, x_ok0, x_ok, x_ok1, x_ok2, o_not0, x_g0, x_gS, x_s0, x_sS, x_bs, x_bn, x_ms, x_isNnone, x_isNbool, x_isNint, x_isNstr, x_isNlist, x_isNtuple, x_isNdict, x_tyintnone, x_tyintbool, x_tyintint, x_tyintstr, x_tyintlist, x_tyinttuple, x_tyintdict, x_tyboolnone, x_tyboolbool, x_tyboolint, x_tyboolstr, x_tyboollist, x_tybooltuple, x_tybooldict, x_tystrnone, x_tystrbool, x_tystrint, x_tystrstr, x_tystrlist, x_tystrtuple, x_tystrdict, x_tytupnone, x_tytupbool, x_tytupint, x_tytupstr, x_tytuplist, x_tytuptuple, x_tytupdict, x_tylstnone, x_tylstbool, x_tylstint, x_tylststr, x_tylstlist, x_tylsttuple, x_tylstdict, x_tydctnone, x_tydctbool, x_tydctint, x_tydctstr, x_tydctlist, x_tydcttuple, x_tydctdict, x_be0, x_bn0, x_be1, x_bn1, x_be2, x_bn2, x_be3, x_bn3, List.length_cons, List.length_nil, List.map_cons, List.map_nil, List.replicate, List.cons_append, List.nil_append, List.append_nil, startE, pick, List.filterMap_cons, List.filterMap_nil, Bool.or_false, Bool.false_or, Bool.or_true, Bool.true_or, Bool.and_true, Bool.true_and, Bool.and_false, Bool.false_and, Bool.not_true, Bool.not_false, Bool.not_not, decide_true, decide_false, Int.cast_ofNat_Int, Nat.reduceAdd, Nat.zero_add, Int.reduceEq, Int.reduceLT, Int.reduceLE, Int.reduceGT, Int.reduceGE, Int.reduceAdd, Int.reduceSub, Int.reduceMul, Int.reduceNeg, Int.reducePow, Int.reduceToNat]
theorem o_atom {f : List D → Option D} {ds : List D} {b : Bool} (h : f ds = some (.bool b)) : atomF f ds = some (.bool b) := by
  unfold atomF
  rw [h]; rfl
theorem e_jn_same (n : Int) {s : Int} (h : 0 < s) : jn (n, 0) (n + s, 0) = fr n s := by
  unfold jn
  have e : ((n - (n + s)).natAbs : Int) = s := by omega
  simp only
  rw [e]
  have z : gc 0 0 = 0 := by unfold gc; decide
  rw [z, gc_comm, gc_zero (by omega)]
theorem cop_dvd {a p k : Int} (h : gc a p = 1) (hk : p ∣ a * k) : p ∣ k := by
  have h1 : Nat.Coprime p.natAbs a.natAbs := by
    unfold gc at h
    have : Int.gcd a p = 1 := by omega
    unfold Int.gcd at this
    unfold Nat.Coprime
    rw [Nat.gcd_comm]; exact this
  have h2 : p.natAbs ∣ a.natAbs * k.natAbs := by
    rw [← Int.natAbs_mul]
    exact Int.natAbs_dvd_natAbs.mpr hk
  exact Int.natAbs_dvd_natAbs.mp (h1.dvd_of_dvd_mul_left h2)
/-- two rests of one number -/
theorem met_same (n : Int) {s t : Int} (hs : 0 < s) (ht : 0 < t) : IsMt (fr n s) (fr n t) (some (fr n (s / gc s t * t))) := by
  obtain ⟨hc, hcs, hct, hone⟩ := gc_parts hs ht
  have ht' : t = gc s t * (t / gc s t) := (Int.mul_ediv_cancel' hct).symm
  have hs' : s = gc s t * (s / gc s t) := (Int.mul_ediv_cancel' hcs).symm
  have m := mt_pos (f := n) (g := n) (u := 0) hs ht hc ht' hcs (by rw [Int.sub_self]; simp) (by rw [Int.sub_self]; exact Int.dvd_zero _) fun k hk => cop_dvd hone hk
  have e : s * (t / gc s t) = s / gc s t * t := by
    generalize s / gc s t = a at *
    generalize t / gc s t = b at *
    generalize gc s t = c at *
    subst hs' ht'
    grind
  rw [Int.mul_zero, Int.add_zero, e] at m
  exact ⟨m.1, fun x => (m.2 x).trans ⟨fun z => ⟨(fr_mem _ _ _).mpr z.1, (fr_mem _ _ _).mpr z.2⟩, fun z => ⟨(fr_mem _ _ _).mp z.1, (fr_mem _ _ _).mp z.2⟩⟩⟩
theorem o_neR (r o : Int × Int) : neD [.tuple [.int r.1, .int r.2], .tuple [.int o.1, .int o.2]] = some (.bool (!decide (r = o))) := by
  have h := o_eqR r o
  show some (PyData.bool (!_)) = _
  have h' : some (PyData.bool (PyData.eqv (.tuple [.int r.1, .int r.2]) (.tuple [.int o.1, .int o.2]))) = some (PyData.bool (decide (r = o))) := h
  have h2 : PyData.eqv (.tuple [.int r.1, .int r.2]) (.tuple [.int o.1, .int o.2]) = decide (r = o) := by injection h' with h'; injection h'
  rw [h2]
theorem e_fb1 {n : Nat} {c : D} (h : Gen n c) (hn : n < 1099511620000) (c0 c1 c3 c4 c5 c6 c7 c8 c9 c10 : Cell) : ∃ c' d4 d5 d6, fb_law_1 [c0, c1, .own c, c3, c4, c5, c6, c7, c8, c9, c10] = some (.nx [c0, c1, .own c', c3, d4, d5, d6, c7, c8, c9, c10]) ∧ Gen (n + 60) c' := by
  obtain ⟨r, a1, e1, h1, r1, r2, r3, g1⟩ := e_some_rest h (by omega)
  obtain ⟨o, a2, e2, h2, o1, o2, o3, g2⟩ := e_some_rest g1 (by omega)
  obtain ⟨t, a3, e3, h3, t1, t2, t3, g3⟩ := e_some_rest g2 (by omega)
  obtain ⟨x, a4, e4, x0, x1, g4⟩ := e_random (b := 99) g3 (by omega) (by decide) (by decide)
  obtain ⟨a5, e5, g5⟩ := e_range_right (r := r) g4 (by omega) h1 r3
  have w := o_atom (e_window a3 h1 h2 ⟨r1, r2, r3⟩ ⟨o1, o2, o3⟩)
  have m := o_atom (e_moved a4 (x - 49) h1 (by omega))
  have j1 := e_joined r o h1 h2
  have j2 := e_joined (jn r o) t (jn_can _ _) h3
  have j3 := e_joined t o h3 h2
  have j4 := e_joined r (jn t o) h1 (jn_can _ _)
  rw [jn_comm t o, ← jn_assoc] at j4
  rw [jn_comm t o] at j3
  have s1 := e_same 11 (eR (jn (jn r o) t)) (okS_eR _ _)
  refine ⟨a5, .sh (eR r), .sh (eR o), .sh (eR t), ?_, g5.mono (by omega)⟩
  rw [fb_law_1]
  simp only [e1, e2, e3, w, e4, m, e5, j1, j2, j3, j4, s1, x_seq, x_seq1, x_seq2, x_seq3, x_seq4, x_seq5, x_asg, x_asg1, x_asgF, x_asgF1, x_exp, x_exp1, x_ret, x_ret1, x_retF, x_retF1, x_retN, x_skip, x_brk, x_cnt, x_if, x_if1, x_if2, x_and, x_and1, x_and2, x_or, x_or1, x_or2, x_not, x_not1, x_bool, x_bool1, x_andV, x_andV1, x_andV2, x_orV, x_orV1, x_orV2, x_notV, x_notV1, x_ifV, x_ifV1, x_ifV2, x_cE, x_nm, x_nm1, x_nm2, x_rd, x_rd1, x_rd2, x_rd3, x_ev0, x_ev, x_ev1, x_ev2, x_pk, x_pk1, x_pk2, x_pk3, x_vv0, x_vv, x_vv1, x_op, x_op1, x_op2, x_ca, x_ck, x_ci, x_ci0, x_ci1, x_ci2, x_ci3, x_ci4, x_ci5, x_tup, x_tup1, x_lst, x_lst1, x_ch, x_ch1, x_ch2, x_ch3, x_ch4, x_ch5, x_asgT, x_asgT1, x_nx, x_par, x_par1, x_par2, x_par3, x_par31, x_par32, x_par33, x_tn, x_t0, x_tc, x_ts, x_ts0, x_ts1, x_up1, x_up2, x_upO, x_upI, x_app, x_app0, x_app1, x_for, x_for1, x_fl1, x_fl2, x_fl3, x_fl4, x_fl5, x_fl6, x_turn, x_its, x_its1, x_its2, x_its3, x_rg1, x_rg2, x_rg21, x_en, x_en1, x_zp, x_zp1, x_zp2, x_zp3, x_st, x_st0, x_st1, x_st2, x_st3, x_yes, x_lc2, x_rA1, x_rA2, x_rF1, x_rI1, x_rI2, x_wh1, x_wh2, x_wh3, x_wh4, x_wh5, o_add, o_sub, o_neg, o_lt, o_le, o_gt, o_ge, o_eq, o_ne, o_eqB, o_neB, o_int, o_abs, o_max, o_min, o_lenL, o_lenT, o_ix0, o_ix1, o_ixl0, o_ixl1, o_ixl2, o_isi, o_isi2, o_isN, o_notN, o_isB, o_notB, x_A0, x_F0, x_I0, x_A1, x_F1, x_I1, x_A2, x_F2, x_I2, x_A3, x_F3, x_I3, x_A4, x_F4, x_I4, x_A5, x_F5, x_I5, x_A6, x_F6, x_I6, x_A7, x_F7, x_I7, x_A8, x_F8, x_I8, x_wi0, x_wi, x_re0, x_re, x_re1, x_ok0, x_ok, x_ok1, x_ok2, o_not0, x_g0, x_gS, x_s0, x_sS, x_bs, x_bn, x_ms, x_isNnone, x_isNbool, x_isNint, x_isNstr, x_isNlist, x_isNtuple, x_isNdict, x_tyintnone, x_tyintbool, x_tyintint, x_tyintstr, x_tyintlist, x_tyinttuple, x_tyintdict, x_tyboolnone, x_tyboolbool, x_tyboolint, x_tyboolstr, x_tyboollist, x_tybooltuple, x_tybooldict, x_tystrnone, x_tystrbool, x_tystrint, x_tystrstr, x_tystrlist, x_tystrtuple, x_tystrdict, x_tytupnone, x_tytupbool, x_tytupint, x_tytupstr, x_tytuplist, x_tytuptuple, x_tytupdict, x_tylstnone, x_tylstbool, x_tylstint, x_tylststr, x_tylstlist, x_tylsttuple, x_tylstdict, x_tydctnone, x_tydctbool, x_tydctint, x_tydctstr, x_tydctlist, x_tydcttuple, x_tydctdict, x_be0, x_bn0, x_be1, x_bn1, x_be2, x_bn2, x_be3, x_bn3, List.length_cons, List.length_nil, List.map_cons, List.map_nil, List.replicate, List.cons_append, List.nil_append, List.append_nil, startE, pick, List.filterMap_cons, List.filterMap_nil, Bool.or_false, Bool.false_or, Bool.or_true, Bool.true_or, Bool.and_true, Bool.true_and, Bool.and_false, Bool.false_and, Bool.not_true, Bool.not_false, Bool.not_not, decide_true, decide_false, Int.cast_ofNat_Int, Nat.reduceAdd, Nat.zero_add, Int.reduceEq, Int.reduceLT, Int.reduceLE, Int.reduceGT, Int.reduceGE, Int.reduceAdd, Int.reduceSub, Int.reduceMul, Int.reduceNeg, Int.reducePow, Int.reduceToNat]
theorem e_fb2 (ns : List Int) {i : Int} (h0 : 0 ≤ i) (h1 : i ≤ 1000) (c2 c3 c4 c5 c6 c7 c8 c9 c10 : Cell) : ∃ d2 d3 d4 d5 d6 d7 d8 d9 d10, fb_law_2 [.sh (.list (ns.map .int)), .sh (.int i), c2, c3, c4, c5, c6, c7, c8, c9, c10] = some (.nx [.sh (.list (ns.map .int)), .sh (.int i), d2, d3, d4, d5, d6, d7, d8, d9, d10]) := by
  obtain ⟨c, eg, g⟩ := e_generator ns h0 h1
  have rg4 := fun ρ => x_rg11 4 ρ (rb_ok (by decide) (by decide))
  obtain ⟨ρ', el, c', d3, d4, d5, d6, rfl, g'⟩ := forL_inv (t := tgName 3) (b := fb_law_1) (fun j ρ => ∃ c' d3 d4 d5 d6, ρ = [.sh (.list (ns.map .int)), .sh (.int i), .own c', d3, d4, d5, d6, c7, c8, c9, c10] ∧ Gen (1000000 + 60 * j) c') (intsD 0 (4 : Int).toNat) 0 [.sh (.list (ns.map .int)), .sh (.int i), .own c, c3, c4, c5, c6, c7, c8, c9, c10] ⟨_, _, _, _, _, rfl, g⟩ (by
    rintro j d ρ hd ⟨c', d3, d4, d5, d6, rfl, g'⟩
    have hj : j < 4 := by
      have := (List.getElem?_eq_some_iff.mp hd).1
      rwa [intsD_length] at this
    obtain ⟨c'', f4, f5, f6, ef, g''⟩ := e_fb1 g' (by omega) (.sh (.list (ns.map .int))) (.sh (.int i)) (.sh d) d4 d5 d6 c7 c8 c9 c10
    refine ⟨_, .inl ?_, c'', .sh d, f4, f5, f6, rfl, g''.mono (by omega)⟩
    rw [x_turn, x_tn, x_bs]
    exact ef)
  rw [intsD_length] at g'
  rw [show (4 : Int).toNat = 4 from rfl] at el
  obtain ⟨x, k1, e1, x0, x1, g1⟩ := e_random (b := 99) g' (by decide) (by decide) (by decide)
  obtain ⟨y, k2, e2, y0, y1, g2⟩ := e_random (b := 99) g1 (by decide) (by decide) (by decide)
  obtain ⟨z, k3, e3, z0, z1, g3⟩ := e_random (b := 100000000000000000) g2 (by decide) (by decide) (by decide)
  have p1 : powD [.int 10, .int 9] = some (.int 1000000000) := by kernel_rfl
  have p2 : powD [.int 10, .int 17] = some (.int 100000000000000000) := by kernel_rfl
  have sm : ∀ x : Int, 0 ≤ x → x < 2000000000 → Sm x := fun x a b => Nat.lt_of_lt_of_le (show x.natAbs < 2 ^ 40 by omega) (Nat.pow_le_pow_right (by decide) (by decide))
  have hs : 0 < 1000000000 + x := by omega
  have ht : 0 < 1000000100 + y := by omega
  have hsb : 1000000000 + x < 2000000000 := by omega
  have htb : 1000000100 + y < 2000000000 := by omega
  generalize hS : 1000000000 + x = s at *
  generalize hT : 1000000100 + y = t at *
  have f1 := fr_can z (show 0 ≤ s by omega)
  have f2 := fr_can z (show 0 ≤ t by omega)
  have b1 : 0 ≤ (fr z s).1 ∧ (fr z s).1 < s := by rw [fr_pos (by omega)]; exact ⟨Int.emod_nonneg _ (by omega), Int.emod_lt_of_pos _ hs⟩
  have b2 : 0 ≤ (fr z t).1 ∧ (fr z t).1 < t := by rw [fr_pos (by omega)]; exact ⟨Int.emod_nonneg _ (by omega), Int.emod_lt_of_pos _ ht⟩
  have b3 : (fr z s).2 = s := fr_snd _ _
  have b4 : (fr z t).2 = t := fr_snd _ _
  obtain ⟨M, eM, hM⟩ := e_met (fr z s) (fr z t) f1 f2 (sm _ (by omega) (by omega)) (sm _ (by omega) (by omega)) (sm _ (by omega) (by omega)) (sm _ (by omega) (by omega))
  obtain rfl := isMt_uniq hM (met_same z hs ht)
  obtain ⟨hc, hcs, hct, hone⟩ := gc_parts hs ht
  have hcm : gc s t ≤ s := Int.le_of_dvd hs hcs
  have q1 : 0 ≤ s / gc s t := Int.ediv_nonneg (by omega) (by omega)
  have q2 : s / gc s t ≤ s := Int.ediv_le_self _ (by omega)
  have dv := o_fdiv (i := s) hc (small_divB hc (by omega))
  have ml := o_mul (i := s / gc s t) (j := t) (lim (by omega)) (lim (by omega))
  have ml0 : 0 ≤ s / gc s t * t := Int.mul_nonneg q1 (by omega)
  have lc := e_lcommon (show 0 ≤ s by omega) (show 0 ≤ t by omega)
  have l1 := e_lrest z (show 0 ≤ s by omega)
  have l2 := e_lrest z (show 0 ≤ t by omega)
  have l3 := e_lrest z ml0
  have j1 : sem_rest_joined [.tuple [.int z, .int 0], .tuple [.int (z + s), .int 0]] = some (eR (fr z s)) := by
    have := e_joined (z, 0) (z + s, 0) ⟨Int.le_refl 0, .inl rfl⟩ ⟨Int.le_refl 0, .inl rfl⟩
    rw [e_jn_same z hs] at this
    exact this
  have mv := o_atom (e_moved k3 (0 - z) f1 (by omega))
  have ne1 := o_neR (fr z (s / gc s t * t)) (fr z (s / gc s t * t))
  have ne2 := o_neR (fr z s) (fr z s)
  rw [decide_eq_true rfl] at ne1 ne2
  have es : ∀ m, eO (some m) = eR m := fun _ => rfl
  refine ⟨.own k3, d3, d4, d5, d6, .sh (.int s), .sh (.int t), .sh (.int z), .sh (eR (fr z (s / gc s t * t))), ?_⟩
  rw [fb_law_2]
  simp only [eg, rg4, el, e1, e2, e3, p1, p2, hS, hT, l1, l2, eM, es, lc, dv, ml, l3, ne1, j1, ne2, mv, x_seq, x_seq1, x_seq2, x_seq3, x_seq4, x_seq5, x_asg, x_asg1, x_asgF, x_asgF1, x_exp, x_exp1, x_ret, x_ret1, x_retF, x_retF1, x_retN, x_skip, x_brk, x_cnt, x_if, x_if1, x_if2, x_and, x_and1, x_and2, x_or, x_or1, x_or2, x_not, x_not1, x_bool, x_bool1, x_andV, x_andV1, x_andV2, x_orV, x_orV1, x_orV2, x_notV, x_notV1, x_ifV, x_ifV1, x_ifV2, x_cE, x_nm, x_nm1, x_nm2, x_rd, x_rd1, x_rd2, x_rd3, x_ev0, x_ev, x_ev1, x_ev2, x_pk, x_pk1, x_pk2, x_pk3, x_vv0, x_vv, x_vv1, x_op, x_op1, x_op2, x_ca, x_ck, x_ci, x_ci0, x_ci1, x_ci2, x_ci3, x_ci4, x_ci5, x_tup, x_tup1, x_lst, x_lst1, x_ch, x_ch1, x_ch2, x_ch3, x_ch4, x_ch5, x_asgT, x_asgT1, x_nx, x_par, x_par1, x_par2, x_par3, x_par31, x_par32, x_par33, x_tn, x_t0, x_tc, x_ts, x_ts0, x_ts1, x_up1, x_up2, x_upO, x_upI, x_app, x_app0, x_app1, x_for, x_for1, x_fl1, x_fl2, x_fl3, x_fl4, x_fl5, x_fl6, x_turn, x_its, x_its1, x_its2, x_its3, x_rg1, x_rg2, x_rg21, x_en, x_en1, x_zp, x_zp1, x_zp2, x_zp3, x_st, x_st0, x_st1, x_st2, x_st3, x_yes, x_lc2, x_rA1, x_rA2, x_rF1, x_rI1, x_rI2, x_wh1, x_wh2, x_wh3, x_wh4, x_wh5, o_add, o_sub, o_neg, o_lt, o_le, o_gt, o_ge, o_eq, o_ne, o_eqB, o_neB, o_int, o_abs, o_max, o_min, o_lenL, o_lenT, o_ix0, o_ix1, o_ixl0, o_ixl1, o_ixl2, o_isi, o_isi2, o_isN, o_notN, o_isB, o_notB, x_A0, x_F0, x_I0, x_A1, x_F1, x_I1, x_A2, x_F2, x_I2, x_A3, x_F3, x_I3, x_A4, x_F4, x_I4, x_A5, x_F5, x_I5, x_A6, x_F6, x_I6, x_A7, x_F7, x_I7, x_A8, x_F8, x_I8, x_wi0, x_wi, x_re0, x_re, x_re1, x_ok0, x_ok, x_ok1, x_ok2, o_not0, x_g0, x_gS, x_s0, x_sS, x_bs, x_bn, x_ms, x_isNnone, x_isNbool, x_isNint, x_isNstr, x_isNlist, x_isNtuple, x_isNdict, x_tyintnone, x_tyintbool, x_tyintint, x_tyintstr, x_tyintlist, x_tyinttuple, x_tyintdict, x_tyboolnone, x_tyboolbool, x_tyboolint, x_tyboolstr, x_tyboollist, x_tybooltuple, x_tybooldict, x_tystrnone, x_tystrbool, x_tystrint, x_tystrstr, x_tystrlist, x_tystrtuple, x_tystrdict, x_tytupnone, x_tytupbool, x_tytupint, x_tytupstr, x_tytuplist, x_tytuptuple, x_tytupdict, x_tylstnone, x_tylstbool, x_tylstint, x_tylststr, x_tylstlist, x_tylsttuple, x_tylstdict, x_tydctnone, x_tydctbool, x_tydctint, x_tydctstr, x_tydctlist, x_tydcttuple, x_tydctdict, x_be0, x_bn0, x_be1, x_bn1, x_be2, x_bn2, x_be3, x_bn3, List.length_cons, List.length_nil, List.map_cons, List.map_nil, List.replicate, List.cons_append, List.nil_append, List.append_nil, startE, pick, List.filterMap_cons, List.filterMap_nil, Bool.or_false, Bool.false_or, Bool.or_true, Bool.true_or, Bool.and_true, Bool.true_and, Bool.and_false, Bool.false_and, Bool.not_true, Bool.not_false, Bool.not_not, decide_true, decide_false, Int.cast_ofNat_Int, Nat.reduceAdd, Nat.zero_add, Int.reduceEq, Int.reduceLT, Int.reduceLE, Int.reduceGT, Int.reduceGE, Int.reduceAdd, Int.reduceSub, Int.reduceMul, Int.reduceNeg, Int.reducePow, Int.reduceToNat]
theorem law_ok (ns : List Int) (h : ns.length ≤ 63) (hb : ∀ k ∈ ns, Builtin.Int.intBits k ≤ 1048576) : sem_law [.list (ns.map .int)] = some (.bool true) := by
  have rg3 := fun ρ => x_rg11 3 ρ (rb_ok (by decide) (by decide))
  obtain ⟨ρ', el, d1, d2, d3, d4, d5, d6, d7, d8, d9, d10, rfl⟩ := forL_inv (t := tgName 1) (b := fb_law_2) (fun _ ρ => ∃ d1 d2 d3 d4 d5 d6 d7 d8 d9 d10, ρ = [.sh (.list (ns.map .int)), d1, d2, d3, d4, d5, d6, d7, d8, d9, d10]) (intsD 0 (3 : Int).toNat) 0 [.sh (.list (ns.map .int)), .no, .no, .no, .no, .no, .no, .no, .no, .no, .no] ⟨_, _, _, _, _, _, _, _, _, _, rfl⟩ (by
    rintro j d ρ hd ⟨d1, d2, d3, d4, d5, d6, d7, d8, d9, d10, rfl⟩
    have hj : j < 3 := by
      have := (List.getElem?_eq_some_iff.mp hd).1
      rwa [intsD_length] at this
    have hd' := intsD_get (lo := 0) (n := (3 : Int).toNat) (i := j) hj
    rw [hd'] at hd
    cases hd
    obtain ⟨f2, f3, f4, f5, f6, f7, f8, f9, f10, ef⟩ := e_fb2 ns (i := 0 + (j : Nat)) (by omega) (by omega) d2 d3 d4 d5 d6 d7 d8 d9 d10
    refine ⟨_, .inl ?_, .sh (.int (0 + (j : Nat))), f2, f3, f4, f5, f6, f7, f8, f9, f10, rfl⟩
    rw [x_turn, x_tn, x_bs]
    exact ef)
  rw [show (3 : Int).toNat = 3 from rfl] at el
  have can : ∀ f s : Int, 0 ≤ f → f < s → Can f s := fun f s a b => ⟨by omega, .inr ⟨a, b⟩⟩
  have sm : ∀ x : Int, 0 ≤ x → x < 20 → Sm x := fun x a b => Nat.lt_of_lt_of_le (show x.natAbs < 2 ^ 5 by omega) (Nat.pow_le_pow_right (by decide) (by decide))
  have j1 : sem_rest_joined [.tuple [.int 1, .int 4], .tuple [.int 3, .int 6]] = some (.tuple [.int 1, .int 2]) := by
    have := e_joined (1, 4) (3, 6) (can _ _ (by decide) (by decide)) (can _ _ (by decide) (by decide))
    rw [show jn (1, 4) (3, 6) = (1, 2) by decide +kernel] at this
    exact this
  have m1 : sem_rest_met [.tuple [.int 1, .int 4], .tuple [.int 3, .int 6]] = some (.tuple [.int 9, .int 12]) := by
    obtain ⟨M, e, hM⟩ := e_met (1, 4) (3, 6) (can _ _ (by decide) (by decide)) (can _ _ (by decide) (by decide)) (sm _ (by decide) (by decide)) (sm _ (by decide) (by decide)) (sm _ (by decide) (by decide)) (sm _ (by decide) (by decide))
    obtain rfl := isMt_uniq hM (show IsMt (1, 4) (3, 6) (some (9, 12)) from ⟨can _ _ (by decide) (by decide), fun n => by unfold Mem; simp only; omega⟩)
    exact e
  have m2 : sem_rest_met [.tuple [.int 0, .int 4], .tuple [.int 1, .int 6]] = some .none := by
    obtain ⟨M, e, hM⟩ := e_met (0, 4) (1, 6) (can _ _ (by decide) (by decide)) (can _ _ (by decide) (by decide)) (sm _ (by decide) (by decide)) (sm _ (by decide) (by decide)) (sm _ (by decide) (by decide)) (sm _ (by decide) (by decide))
    obtain rfl := isMt_uniq hM (show IsMt (0, 4) (1, 6) none from fun n => by unfold Mem; simp only; omega)
    exact e
  have t1 : sem_tight_range [.tuple [.int 1, .int 11], .tuple [.int 0, .int 4]] = some (.tuple [.int 4, .int 8]) := by
    have := e_tight (s := (some 1, some 11)) (r := (0, 4)) (show (1 : Int) ≤ 11 by decide) (can _ _ (by decide) (by decide))
    rw [show tightQ (some 1, some 11) (0, 4) = some (some 4, some 8) by decide +kernel] at this
    exact this
  have s1 := e_same 11 (.list [.tuple [.int 1, .int 2], .tuple [.int 9, .int 12], .none, .tuple [.int 4, .int 8]]) (okS_l (by simp) (all_cons (okS_eR 9 (1, 2)) (all_cons (okS_eR 9 (9, 12)) (all_cons trivial (all_cons (okS_eR 9 (4, 8)) all_nil)))))
  rw [sem_law, g_law]
  simp only [rg3, el, j1, m1, m2, t1, s1, x_seq, x_seq1, x_seq2, x_seq3, x_seq4, x_seq5, x_asg, x_asg1, x_asgF, x_asgF1, x_exp, x_exp1, x_ret, x_ret1, x_retF, x_retF1, x_retN, x_skip, x_brk, x_cnt, x_if, x_if1, x_if2, x_and, x_and1, x_and2, x_or, x_or1, x_or2, x_not, x_not1, x_bool, x_bool1, x_andV, x_andV1, x_andV2, x_orV, x_orV1, x_orV2, x_notV, x_notV1, x_ifV, x_ifV1, x_ifV2, x_cE, x_nm, x_nm1, x_nm2, x_rd, x_rd1, x_rd2, x_rd3, x_ev0, x_ev, x_ev1, x_ev2, x_pk, x_pk1, x_pk2, x_pk3, x_vv0, x_vv, x_vv1, x_op, x_op1, x_op2, x_ca, x_ck, x_ci, x_ci0, x_ci1, x_ci2, x_ci3, x_ci4, x_ci5, x_tup, x_tup1, x_lst, x_lst1, x_ch, x_ch1, x_ch2, x_ch3, x_ch4, x_ch5, x_asgT, x_asgT1, x_nx, x_par, x_par1, x_par2, x_par3, x_par31, x_par32, x_par33, x_tn, x_t0, x_tc, x_ts, x_ts0, x_ts1, x_up1, x_up2, x_upO, x_upI, x_app, x_app0, x_app1, x_for, x_for1, x_fl1, x_fl2, x_fl3, x_fl4, x_fl5, x_fl6, x_turn, x_its, x_its1, x_its2, x_its3, x_rg1, x_rg2, x_rg21, x_en, x_en1, x_zp, x_zp1, x_zp2, x_zp3, x_st, x_st0, x_st1, x_st2, x_st3, x_yes, x_lc2, x_rA1, x_rA2, x_rF1, x_rI1, x_rI2, x_wh1, x_wh2, x_wh3, x_wh4, x_wh5, o_add, o_sub, o_neg, o_lt, o_le, o_gt, o_ge, o_eq, o_ne, o_eqB, o_neB, o_int, o_abs, o_max, o_min, o_lenL, o_lenT, o_ix0, o_ix1, o_ixl0, o_ixl1, o_ixl2, o_isi, o_isi2, o_isN, o_notN, o_isB, o_notB, x_A0, x_F0, x_I0, x_A1, x_F1, x_I1, x_A2, x_F2, x_I2, x_A3, x_F3, x_I3, x_A4, x_F4, x_I4, x_A5, x_F5, x_I5, x_A6, x_F6, x_I6, x_A7, x_F7, x_I7, x_A8, x_F8, x_I8, x_wi0, x_wi, x_re0, x_re, x_re1, x_ok0, x_ok, x_ok1, x_ok2, o_not0, x_g0, x_gS, x_s0, x_sS, x_bs, x_bn, x_ms, x_isNnone, x_isNbool, x_isNint, x_isNstr, x_isNlist, x_isNtuple, x_isNdict, x_tyintnone, x_tyintbool, x_tyintint, x_tyintstr, x_tyintlist, x_tyinttuple, x_tyintdict, x_tyboolnone, x_tyboolbool, x_tyboolint, x_tyboolstr, x_tyboollist, x_tybooltuple, x_tybooldict, x_tystrnone, x_tystrbool, x_tystrint, x_tystrstr, x_tystrlist, x_tystrtuple, x_tystrdict, x_tytupnone, x_tytupbool, x_tytupint, x_tytupstr, x_tytuplist, x_tytuptuple, x_tytupdict, x_tylstnone, x_tylstbool, x_tylstint, x_tylststr, x_tylstlist, x_tylsttuple, x_tylstdict, x_tydctnone, x_tydctbool, x_tydctint, x_tydctstr, x_tydctlist, x_tydcttuple, x_tydctdict, x_be0, x_bn0, x_be1, x_bn1, x_be2, x_bn2, x_be3, x_bn3, List.length_cons, List.length_nil, List.map_cons, List.map_nil, List.replicate, List.cons_append, List.nil_append, List.append_nil, startE, pick, List.filterMap_cons, List.filterMap_nil, Bool.or_false, Bool.false_or, Bool.or_true, Bool.true_or, Bool.and_true, Bool.true_and, Bool.and_false, Bool.false_and, Bool.not_true, Bool.not_false, Bool.not_not, decide_true, decide_false, Int.cast_ofNat_Int, Nat.reduceAdd, Nat.zero_add, Int.reduceEq, Int.reduceLT, Int.reduceLE, Int.reduceGT, Int.reduceGE, Int.reduceAdd, Int.reduceSub, Int.reduceMul, Int.reduceNeg, Int.reducePow, Int.reduceToNat]
end LW

set_option maxRecDepth 100000
set_option maxHeartbeats 0
open PySem PySem.W PySem.Calls PyProof.Rows
theorem PySem.Challenge.cw_stillrests_k79_whole_two_rests_holds : PySem.Challenge.rw_stillrests_k79_whole_two_rests.Holds := by
  w_on; o_law
  refine HandSHeadRun.head_any (r := OpenLaw.row PySem.Challenge.rw_stillrests_k79_whole_two_rests) (q := view (OpenLaw.row PySem.Challenge.rw_stillrests_k79_whole_two_rests).prog [50]) (H := LW.hk) (ob := LW.ob) (M := 4000) (loose := LW.loose) (d := HandSHeadRun.topDef (OpenLaw.row PySem.Challenge.rw_stillrests_k79_whole_two_rests).prog 50) (kwd := []) LW.ob_eq
    (by kernel_rfl) (fun s => by kernel_rfl) LW.run (by kernel_rfl) (by kernel_rfl) (by kernel_rfl) (by rfl) (by first | assumption | decide +kernel) (by decide +kernel) ⟨rfl, rfl, rfl, rfl, rfl, by decide +kernel⟩ ?hw ?hc
  case hw => w_witness2
  case hc =>
    refine MP.walk_ofG (l := PySem.Challenge.rw_stillrests_k79_whole_two_rests) (n := 63) (k := 14) (x := "script") rfl (by decide) (by kernel_rfl) ⟨rfl, by decide, by decide⟩ rfl ?F
    intro w mg fa h Y G hmg0
    obtain ⟨K, KX, c⟩ := Y
    have hmg : mg ("law" : PySem.Str) = some (.ref fa) := by
      have e : (HandSHeadRun.topDef (OpenLaw.row PySem.Challenge.rw_stillrests_k79_whole_two_rests).prog 50).name = ("law" : PySem.Str) := by kernel_rfl
      rw [← e]
      exact hmg0
    obtain ⟨fd, hb, hF⟩ := LW.facts (P := (PySem.Challenge.rw_stillrests_k79_whole_two_rests).prog) (w := w) KX G hmg c
    exact ⟨K, fd, LW.sem_law, KX, hb, LW.law_ok, hF⟩
