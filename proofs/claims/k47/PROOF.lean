import PyProof.Rows.All
import Wide.All
import OpenK.AllK
import Wide.FinOn
import HandS.ForMost
import HandS.TupAny
import HandS.Wide
import HandS.IsInst
import HandS.Zip
import HandS.Style
import HandS.NoneIn
import HandS.Conv
import PyProof.MaxThree
import KE.GoesEnum
import KE.DataFind
import KE.KRevSl
import PySem.Challenge.RW_farandnear_k47_whole_turned_and_joined_w
import Open.Row
set_option Elab.async false
set_option linter.all false
set_option maxRecDepth 100000
set_option maxHeartbeats 4000000
/-! DL1: data as trees (D), what stands in the abstract heap for them (Rp), the source of draws (Src), expressions as functions of the slots' data. -/
namespace DL
open PySem PySem.Spec PyProof.Rows L2

inductive D where
  | non | bl (b : Bool) | int (i : Int) | str (x : Str) | tup (xs : List D) | lst (xs : List D) | src | dct (kvs : List (Str × Str)) | tupk (xs : List D)
deriving Inhabited

/-- where the source of draws stands: its own list, the script's copy -/
structure Sr where
  dA : Addr
  q : Addr
  /-- lists that no value leads to -/
  hid : Addr → Prop
  hA : hid dA
  hQ : hid q
/-- what is hidden is tracked -/
def Sr.tr (S : Sr) (H : Hp) : Prop := ∀ b, S.hid b → H b ≠ none
/-- the source of draws -/
structure Src where
  script : List Int
  pos : Nat
  big : Int
  seed : Int

mutual
inductive Rp (S : Sr) (H : Hp) : V → D → List Addr → Prop
  | non : Rp S H .non .non []
  | bl (b : Bool) : Rp S H (.bl b) (.bl b) []
  | int (i : Int) : Rp S H (.int i) (.int i) []
  | str (x : Str) : Rp S H (.str x) (.str x) []
  | tup {a : Addr} {vs : List V} {ds : List D} {L : List Addr} : H a = some (.tup vs) → Rps S H vs ds L → Rp S H (.ref a) (.tup ds) L
  | lst {a : Addr} {vs : List V} {ds : List D} {L : List Addr} : H a = some (.lst vs) → ¬ S.hid a → Rps S H vs ds L → Rp S H (.ref a) (.lst ds) (a :: L)
  | src : Rp S H (.ref S.dA) .src []
  | dct {a : Addr} {kvs : List (Str × Str)} : H a = some (.dK (kvs.map fun p => (Sum.inr p.1, V.str p.2))) → Rp S H (.ref a) (.dct kvs) []
  /-- a tuple whose object is known to be plain (its methods may be called) -/
  | tupk {a : Addr} {o : Obj} {vs : List V} {ds : List D} {L : List Addr} : H a = some (.frz o (.tup vs)) → o.dict = none → Rps S H vs ds L → Rp S H (.ref a) (.tupk ds) L
inductive Rps (S : Sr) (H : Hp) : List V → List D → List Addr → Prop
  | nil : Rps S H [] [] []
  | cons {v : V} {vs : List V} {d : D} {ds : List D} {L L' : List Addr} : Rp S H v d L → Rps S H vs ds L' → Rps S H (v :: vs) (d :: ds) (L ++ L')
end

/-- what stays: tuples, lists but those at W, what is tracked -/
structure HE (W : Addr → Prop) (H H' : Hp) : Prop where
  tup : ∀ b xs, H b = some (.tup xs) → H' b = some (.tup xs)
  lst : ∀ b xs, ¬ W b → H b = some (.lst xs) → H' b = some (.lst xs)
  new : ∀ b, H' b = none → H b = none
  dk : ∀ b kvs, H b = some (.dK kvs) → H' b = some (.dK kvs)
  fz : ∀ b o u, H b = some (.frz o u) → H' b = some (.frz o u)
abbrev HE0 := HE (fun _ => False)
abbrev Ext (S : Sr) := HE (fun b => b = S.dA)

section
variable {S : Sr} {W W' : Addr → Prop} {H H1 H2 H' : Hp}
theorem HE.refl : HE W H H := ⟨fun _ _ h => h, fun _ _ _ h => h, fun _ h => h, fun _ _ h => h, fun _ _ _ h => h⟩
theorem HE.trans (a : HE W H H1) (b : HE W H1 H2) : HE W H H2 := ⟨fun c xs h => b.tup c xs (a.tup c xs h), fun c xs w h => b.lst c xs w (a.lst c xs w h), fun c h => a.new c (b.new c h), fun c xs h => b.dk c xs (a.dk c xs h), fun c o u h => b.fz c o u (a.fz c o u h)⟩
theorem HE.mono (a : HE W H H1) (h : ∀ b, W b → W' b) : HE W' H H1 := ⟨a.tup, fun c xs w e => a.lst c xs (fun z => w (h c z)) e, a.new, a.dk, a.fz⟩
theorem HE.up0 (a : HE0 H H1) : HE W H H1 := a.mono fun _ z => z.elim
theorem HE.fresh {p : Addr} {o : HO} (h : H p = none) : HE W H (upd H p o) :=
  ⟨fun b xs e => by rw [upd_ne (ne_of_none e h)]; exact e, fun b xs _ e => by rw [upd_ne (ne_of_none e h)]; exact e, fun b e => by
    by_cases hb : b = p
    · subst hb; exact h
    · rw [upd_ne hb] at e; exact e, fun b xs e => by rw [upd_ne (ne_of_none e h)]; exact e, fun b o u e => by rw [upd_ne (ne_of_none e h)]; exact e⟩
theorem HE.write {p : Addr} {xs ys : List V} (h : H p = some (.lst xs)) (w : W p) : HE W H (upd H p (.lst ys)) :=
  ⟨fun b zs e => by rw [upd_ne (ne_of e h (by intro z; cases z))]; exact e, fun b zs n e => by
      have hb : b ≠ p := fun z => n (z ▸ w)
      rw [upd_ne hb]; exact e, fun b e => by
    by_cases hb : b = p
    · subst hb; rw [upd_same] at e; cases e
    · rw [upd_ne hb] at e; exact e, fun b zs e => by rw [upd_ne (ne_of e h (by intro z; cases z))]; exact e, fun b o u e => by rw [upd_ne (ne_of e h (by intro z; cases z))]; exact e⟩

mutual
theorem Rp.ne {v : V} {d : D} {L : List Addr} (r : Rp S H v d L) : ∀ a ∈ L, ¬ S.hid a ∧ ∃ xs, H a = some (.lst xs) := by
  cases r with
  | non => simp
  | bl => simp
  | int => simp
  | str => simp
  | src => simp
  | dct => simp
  | tup h rs => exact rs.ne
  | tupk h _ rs => exact rs.ne
  | lst h n rs =>
    intro a ha
    rcases List.mem_cons.mp ha with rfl | ha
    · exact ⟨n, _, h⟩
    · exact rs.ne a ha
theorem Rps.ne {vs : List V} {ds : List D} {L : List Addr} (r : Rps S H vs ds L) : ∀ a ∈ L, ¬ S.hid a ∧ ∃ xs, H a = some (.lst xs) := by
  cases r with
  | nil => simp
  | cons r rs =>
    intro a ha
    rcases List.mem_append.mp ha with ha | ha
    · exact r.ne a ha
    · exact rs.ne a ha
end
mutual
theorem Rp.ext {v : V} {d : D} {L : List Addr} (he : HE W H H') (hL : ∀ a ∈ L, ¬ W a) (r : Rp S H v d L) : Rp S H' v d L := by
  cases r with
  | non => exact .non
  | bl b => exact .bl b
  | int i => exact .int i
  | str x => exact .str x
  | src => exact .src
  | dct e => exact .dct (he.dk _ _ e)
  | tup h rs => exact .tup (he.tup _ _ h) (rs.ext he hL)
  | tupk h hd rs => exact .tupk (he.fz _ _ _ h) hd (rs.ext he hL)
  | lst h n rs => exact .lst (he.lst _ _ (hL _ List.mem_cons_self) h) n (rs.ext he fun a ha => hL a (List.mem_cons_of_mem _ ha))
theorem Rps.ext {vs : List V} {ds : List D} {L : List Addr} (he : HE W H H') (hL : ∀ a ∈ L, ¬ W a) (r : Rps S H vs ds L) : Rps S H' vs ds L := by
  cases r with
  | nil => exact .nil
  | cons r rs => exact .cons (r.ext he fun a ha => hL a (List.mem_append_left _ ha)) (rs.ext he fun a ha => hL a (List.mem_append_right _ ha))
end
theorem Rp.extS {v : V} {d : D} {L : List Addr} (r : Rp S H v d L) (he : Ext S H H') : Rp S H' v d L := r.ext he fun a ha z => (r.ne a ha).1 (z ▸ S.hA)
theorem Rps.extS {vs : List V} {ds : List D} {L : List Addr} (r : Rps S H vs ds L) (he : Ext S H H') : Rps S H' vs ds L := r.ext he fun a ha z => (r.ne a ha).1 (z ▸ S.hA)
theorem Rp.ext0 {v : V} {d : D} {L : List Addr} (r : Rp S H v d L) (he : HE0 H H') : Rp S H' v d L := r.ext he fun _ _ z => z
theorem Rps.ext0 {vs : List V} {ds : List D} {L : List Addr} (r : Rps S H vs ds L) (he : HE0 H H') : Rps S H' vs ds L := r.ext he fun _ _ z => z

theorem Rps.len {vs : List V} {ds : List D} {L : List Addr} (r : Rps S H vs ds L) : vs.length = ds.length := by
  induction ds generalizing vs L with
  | nil => cases r; rfl
  | cons d ds ih =>
    cases r with
    | cons r rs => simp [ih rs]
theorem Rps.get {vs : List V} {ds : List D} {L : List Addr} (r : Rps S H vs ds L) {i : Nat} {d : D} (h : ds[i]? = some d) : ∃ v L', vs[i]? = some v ∧ Rp S H v d L' ∧ ∀ a ∈ L', a ∈ L := by
  induction ds generalizing vs L i with
  | nil => simp at h
  | cons e ds ih =>
    cases r with
    | cons r rs =>
      cases i with
      | zero =>
        have : e = d := by simpa using h
        subst this
        exact ⟨_, _, rfl, r, fun a ha => List.mem_append_left _ ha⟩
      | succ i =>
        obtain ⟨v, L', h1, h2, h3⟩ := ih rs (i := i) (by simpa using h)
        exact ⟨v, L', by simpa using h1, h2, fun a ha => List.mem_append_right _ (h3 a ha)⟩
theorem Rps.append {vs ws : List V} {ds es : List D} {L L' : List Addr} (r : Rps S H vs ds L) (r' : Rps S H ws es L') : Rps S H (vs ++ ws) (ds ++ es) (L ++ L') := by
  induction ds generalizing vs L with
  | nil => cases r; simpa using r'
  | cons d ds ih =>
    cases r with
    | cons r rs =>
      rw [List.append_assoc]
      exact .cons r (ih rs)
theorem Rps.one {v : V} {d : D} {L : List Addr} (r : Rp S H v d L) : Rps S H [v] [d] L := by
  have := Rps.cons r (Rps.nil (S := S) (H := H))
  rwa [List.append_nil] at this
theorem Rps.mk {vs : List V} {ds : List D} (hl : vs.length = ds.length) (h : ∀ (i : Nat) (d : D) (v : V), ds[i]? = some d → vs[i]? = some v → ∃ L, Rp S H v d L) : ∃ L, Rps S H vs ds L := by
  induction ds generalizing vs with
  | nil =>
    cases vs with
    | nil => exact ⟨_, .nil⟩
    | cons v vs => simp at hl
  | cons d ds ih =>
    cases vs with
    | nil => simp at hl
    | cons v vs =>
      obtain ⟨L, r⟩ := h 0 d v rfl rfl
      obtain ⟨L', r'⟩ := ih (by simpa using hl) fun i e w h1 h2 => h (i + 1) e w (by simpa using h1) (by simpa using h2)
      exact ⟨_, .cons r r'⟩
end

section
variable {S : Sr} {H : Hp} {v : V} {L : List Addr}
theorem Rp.itup {ds : List D} (r : Rp S H v (.tup ds) L) : ∃ a vs, v = .ref a ∧ H a = some (.tup vs) ∧ Rps S H vs ds L := by
  cases r with
  | tup h rs => exact ⟨_, _, rfl, h, rs⟩
theorem Rp.ilst {ds : List D} (r : Rp S H v (.lst ds) L) : ∃ a vs L', v = .ref a ∧ H a = some (.lst vs) ∧ ¬ S.hid a ∧ Rps S H vs ds L' ∧ L = a :: L' := by
  cases r with
  | lst h n rs => exact ⟨_, _, _, rfl, h, n, rs, rfl⟩
theorem Rp.itupk {ds : List D} (r : Rp S H v (.tupk ds) L) : ∃ a o vs, v = .ref a ∧ H a = some (.frz o (.tup vs)) ∧ o.dict = none ∧ Rps S H vs ds L := by
  cases r with
  | tupk h hd rs => exact ⟨_, _, _, rfl, h, hd, rs⟩
theorem Rp.iint {i : Int} (r : Rp S H v (.int i) L) : v = .int i ∧ L = [] := by cases r; exact ⟨rfl, rfl⟩
theorem Rp.ibl {i : Bool} (r : Rp S H v (.bl i) L) : v = .bl i ∧ L = [] := by cases r; exact ⟨rfl, rfl⟩
theorem Rp.istr {i : Str} (r : Rp S H v (.str i) L) : v = .str i ∧ L = [] := by cases r; exact ⟨rfl, rfl⟩
theorem Rp.inon (r : Rp S H v .non L) : v = .non ∧ L = [] := by cases r; exact ⟨rfl, rfl⟩
end

/-! ### data without lists -/
mutual
def D.lf : D → Bool
  | .lst _ => false
  | .tup xs => lfs xs
  | .tupk xs => lfs xs
  | _ => true
def lfs : List D → Bool
  | [] => true
  | d :: ds => d.lf && lfs ds
end
mutual
theorem Rp.nil {S : Sr} {H : Hp} {v : V} {d : D} {L : List Addr} (r : Rp S H v d L) (h : d.lf = true) : L = [] := by
  cases r with
  | non => rfl
  | bl => rfl
  | int => rfl
  | str => rfl
  | src => rfl
  | dct => rfl
  | tup _ rs => exact rs.nils (by simpa [D.lf] using h)
  | tupk _ _ rs => exact rs.nils (by simpa [D.lf] using h)
  | lst => simp [D.lf] at h
theorem Rps.nils {S : Sr} {H : Hp} {vs : List V} {ds : List D} {L : List Addr} (r : Rps S H vs ds L) (h : lfs ds = true) : L = [] := by
  cases r with
  | nil => rfl
  | cons r rs =>
    simp only [lfs, Bool.and_eq_true] at h
    rw [r.nil h.1, rs.nils h.2]
    rfl
end

/-! ### the source -/
structure SrcOk (S : Sr) (H : Hp) (st : Src) : Prop where
  ne : S.q ≠ S.dA
  at_ : H S.dA = some (.lst [.ref S.q, .int st.pos, .int st.big, .int st.seed])
  cp : H S.q = some (.lst (st.script.map V.int))
  tr : S.tr H
theorem SrcOk.ext0 {S : Sr} {H H' : Hp} {st : Src} (h : SrcOk S H st) (he : HE0 H H') : SrcOk S H' st := ⟨h.ne, he.lst _ _ (fun z => z) h.at_, he.lst _ _ (fun z => z) h.cp, fun b hb z => h.tr b hb (he.new b z)⟩

/-! ### the monad: a draw may be taken; none: the run is not served -/
def M (α : Type) : Type := Src → Option (α × Src)
@[inline] def M.ret {α : Type} (a : α) : M α := fun s => some (a, s)
@[inline] def M.bd {α β : Type} (m : M α) (f : α → M β) : M β := fun s => match m s with
  | none => none
  | some (a, s') => f a s'
instance : Monad M where
  pure := M.ret
  bind := M.bd
/-- from an option -/
@[inline] def M.of {α : Type} : Option α → M α
  | none => fun _ => none
  | some a => M.ret a
def M.no {α : Type} : M α := fun _ => none
theorem bd_some {α β : Type} {m : M α} {f : α → M β} {s s' : Src} {a : α} (h : m s = some (a, s')) : (m.bd f) s = f a s' := by
  show (match m s with | none => none | some (a, s') => f a s') = _
  rw [h]
theorem bd_inv {α β : Type} {m : M α} {f : α → M β} {s s'' : Src} {b : β} (h : (m.bd f) s = some (b, s'')) : ∃ a s', m s = some (a, s') ∧ f a s' = some (b, s'') := by
  have h' : (match m s with | none => none | some (a, s') => f a s') = some (b, s'') := h
  cases e : m s with
  | none => rw [e] at h'; cases h'
  | some p =>
    obtain ⟨a, s'⟩ := p
    rw [e] at h'
    exact ⟨a, s', rfl, h'⟩
theorem of_inv {α : Type} {o : Option α} {s s' : Src} {a : α} (h : M.of o s = some (a, s')) : o = some a ∧ s' = s := by
  cases o with
  | none => cases h
  | some b =>
    have h' : some (b, s) = some (a, s') := h
    cases h'
    exact ⟨rfl, rfl⟩
theorem ret_inv {α : Type} {s s' : Src} {a b : α} (h : M.ret b s = some (a, s')) : b = a ∧ s' = s := by
  have h' : some (b, s) = some (a, s') := h
  cases h'
  exact ⟨rfl, rfl⟩

/-! ### slots -/
inductive Sl where
  | no | rd (d : D) | ow (d : D)
def Sl.d : Sl → Option D
  | .no => none
  | .rd d => some d
  | .ow d => some d
abbrev Ev := List Sl
def gt (δ : Ev) (i : Nat) : Option D := (δ[i]?).bind Sl.d
structure Rs (S : Sr) (H : Hp) (σ : L2.St) (δ : Ev) : Prop where
  len : σ.length = δ.length
  at_ : ∀ i d, gt δ i = some d → ∃ v L, σ[i]? = some (some v) ∧ Rp S H v d L
theorem Rs.extS {S : Sr} {H H' : Hp} {σ : L2.St} {δ : Ev} (r : Rs S H σ δ) (he : Ext S H H') : Rs S H' σ δ := ⟨r.len, fun i d h => by
  obtain ⟨v, L, h1, h2⟩ := r.at_ i d h
  exact ⟨v, L, h1, h2.extS he⟩⟩
theorem Rs.ext0 {S : Sr} {H H' : Hp} {σ : L2.St} {δ : Ev} (r : Rs S H σ δ) (he : HE0 H H') : Rs S H' σ δ := r.extS he.up0
theorem gt_set {δ : Ev} {i j : Nat} {s : Sl} : gt (δ.set i s) j = if i = j then (if i < δ.length then s.d else none) else gt δ j := by
  unfold gt
  by_cases h : i = j
  · subst h
    rw [if_pos rfl]
    by_cases hi : i < δ.length
    · rw [List.getElem?_set_self hi, if_pos hi]; rfl
    · rw [if_neg hi, List.getElem?_eq_none (by simpa using hi)]; rfl
  · rw [List.getElem?_set_ne h, if_neg h]
theorem gt_lt {δ : Ev} {i : Nat} {d : D} (h : gt δ i = some d) : i < δ.length := by
  unfold gt at h
  by_cases hi : i < δ.length
  · exact hi
  · rw [List.getElem?_eq_none (by simpa using hi)] at h; cases h
theorem Rs.set {S : Sr} {H : Hp} {σ : L2.St} {δ : Ev} {i : Nat} {v : V} {s : Sl} (r : Rs S H σ δ) (h : ∀ d, s.d = some d → ∃ L, Rp S H v d L) : Rs S H (σ.set i (some v)) (δ.set i s) :=
  ⟨by simp [r.len], fun j d e => by
    rw [gt_set] at e
    by_cases hij : i = j
    · subst hij
      rw [if_pos rfl] at e
      by_cases hi : i < δ.length
      · rw [if_pos hi] at e
        obtain ⟨L, q⟩ := h d e
        exact ⟨v, L, by rw [List.getElem?_set_self (by rw [r.len]; exact hi)], q⟩
      · rw [if_neg hi] at e; cases e
    · rw [if_neg hij] at e
      obtain ⟨w, L, h1, h2⟩ := r.at_ j d e
      exact ⟨w, L, by rw [List.getElem?_set_ne hij]; exact h1, h2⟩⟩

/-! ### judgements of expressions over data -/
abbrev FE := Ev → M D
def tD (f : FE) : TE := fun σ H Q => ∃ S δ st d st', Rs S H σ δ ∧ SrcOk S H st ∧ f δ st = some (d, st') ∧ ∀ v H' L, Ext S H H' → SrcOk S H' st' → Rp S H' v d L → Q v H'
def tBo (f : Ev → M Bool) : TT := fun σ H Q => ∃ S δ st d st', Rs S H σ δ ∧ SrcOk S H st ∧ f δ st = some (d, st') ∧ ∀ H', Ext S H H' → SrcOk S H' st' → Q d H'
def tAs (f : Ev → M (List D)) : TA := fun σ H Q => ∃ S δ st ds st', Rs S H σ δ ∧ SrcOk S H st ∧ f δ st = some (ds, st') ∧ ∀ vs H' L, Ext S H H' → SrcOk S H' st' → Rps S H' vs ds L → Q vs H'
abbrev DE (X : Cx) (e : Expr) (f : FE) : Prop := PE X e (tD f)
abbrev DT (X : Cx) (e : Expr) (f : Ev → M Bool) : Prop := PT X e (tBo f)
abbrev DW (X : Cx) (e : Expr) (f : Ev → M Bool) : Prop := PW X e (tBo f)
abbrev DA (X : Cx) (es : List Expr) (f : Ev → M (List D)) : Prop := PA X es (tAs f)
theorem _root_.L2.PE.imp {X : Cx} {e : Expr} {t t' : TE} (p : PE X e t) (h : ∀ σ H Q, t' σ H Q → t σ H Q) : PE X e t' := ⟨fun pins s σ H Q I w => p.run pins s σ H Q I (h σ H Q w)⟩
theorem _root_.L2.PT.imp {X : Cx} {e : Expr} {t t' : TT} (p : PT X e t) (h : ∀ σ H Q, t' σ H Q → t σ H Q) : PT X e t' := ⟨fun pins s σ H Q I w => p.run pins s σ H Q I (h σ H Q w)⟩
theorem _root_.L2.PW.imp {X : Cx} {e : Expr} {t t' : TT} (p : PW X e t) (h : ∀ σ H Q, t' σ H Q → t σ H Q) : PW X e t' := ⟨fun wh pins s σ H Q I w => p.run wh pins s σ H Q I (h σ H Q w)⟩
theorem _root_.L2.PA.imp {X : Cx} {e : List Expr} {t t' : TA} (p : PA X e t) (h : ∀ σ H Q, t' σ H Q → t σ H Q) : PA X e t' := ⟨fun pos pins s σ H Q I w => p.run pos pins s σ H Q I (h σ H Q w)⟩
theorem _root_.L2.PS.imp {X : Cx} {e : Stmt} {t t' : TS} (p : PS X e t) (h : ∀ σ H Q, t' Q σ H → t Q σ H) : PS X e t' := ⟨fun pins s σ H Q I w => p.run pins s σ H Q I (h σ H Q w)⟩
theorem _root_.L2.PSs.imp {X : Cx} {e : List Stmt} {t t' : TS} (p : PSs X e t) (h : ∀ σ H Q, t' Q σ H → t Q σ H) : PSs X e t' := ⟨fun pins s σ H Q I w => p.run pins s σ H Q I (h σ H Q w)⟩
theorem _root_.L2.PI.imp {X : Cx} {tg e : Expr} {t t' : TI} (p : PI X tg e t) (h : ∀ σ H Q, t' σ H Q → t σ H Q) : PI X tg e t' := ⟨fun pins s σ H Q I w => p.run pins s σ H Q I (h σ H Q w)⟩
theorem _root_.L2.OpR.imp {X : Cx} {f : Value → Value → Sem Value} {r r' : R2} (p : OpR X f r) (h : ∀ x y H Q, r' x y H Q → r x y H Q) : OpR X f r' := fun pins s σ H x y v u Q I rx ry w => p pins s σ H x y v u Q I rx ry (h x y H Q w)
theorem _root_.L2.UnR.imp {X : Cx} {f : Value → Sem Value} {r r' : V → Hp → VK → Prop} (p : UnR X f r) (h : ∀ x H Q, r' x H Q → r x H Q) : UnR X f r' := fun pins s σ H x v Q I rx w => p pins s σ H x v Q I rx (h x H Q w)
theorem _root_.L2.CallR.imp {X : Cx} {f : Value} {r r' : List V → Hp → VK → Prop} (p : CallR X f r) (h : ∀ x H Q, r' x H Q → r x H Q) : CallR X f r' := fun pins s σ H x v Q I rx w => p pins s σ H x v Q I rx (h x H Q w)
theorem _root_.L2.IxR.imp {X : Cx} {r r' : R2} (p : IxR X r) (h : ∀ x y H Q, r' x y H Q → r x y H Q) : IxR X r' := fun value slice pins s σ H x y v u Q I rx ry w hs => p value slice pins s σ H x y v u Q I rx ry (h x y H Q w) hs

def eVar (i : Nat) : FE := fun δ => M.of (gt δ i)
def eC (d : D) : FE := fun _ => M.ret d
def e2 (o : D → D → Option D) (f g : FE) : FE := fun δ => (f δ).bd fun a => (g δ).bd fun b => M.of (o a b)
def e1 (o : D → Option D) (f : FE) : FE := fun δ => (f δ).bd fun a => M.of (o a)
def eAs0 : Ev → M (List D) := fun _ => M.ret []
def eAs (f : FE) (g : Ev → M (List D)) : Ev → M (List D) := fun δ => (f δ).bd fun a => (g δ).bd fun b => M.ret (a :: b)
def eTup (g : Ev → M (List D)) : FE := fun δ => (g δ).bd fun ds => M.of (if ds.length ≤ 1000000 then some (.tup ds) else none)
def eLst (g : Ev → M (List D)) : FE := fun δ => (g δ).bd fun ds => M.of (if ds.length ≤ 1000000 then some (.lst ds) else none)
def eIf (c : Ev → M Bool) (f g : FE) : FE := fun δ => (c δ).bd fun b => if b = true then f δ else g δ
/-- a value's operation over data: the source and what stands is kept -/
def rD2 (o : D → D → Option D) : R2 := fun x y H Q => ∃ S a b d La Lb, S.tr H ∧ Rp S H x a La ∧ Rp S H y b Lb ∧ o a b = some d ∧ ∀ v H' L, HE0 H H' → Rp S H' v d L → Q v H'
def rD1 (o : D → Option D) : V → Hp → VK → Prop := fun x H Q => ∃ S a d La, S.tr H ∧ Rp S H x a La ∧ o a = some d ∧ ∀ v H' L, HE0 H H' → Rp S H' v d L → Q v H'
def rDs (o : List D → Option D) : List V → Hp → VK → Prop := fun xs H Q => ∃ S ds d La, S.tr H ∧ Rps S H xs ds La ∧ o ds = some d ∧ ∀ v H' L, HE0 H H' → Rp S H' v d L → Q v H'

theorem size_ok {n : Nat} (h : n ≤ 1000000) : n ≤ sizeLine := by rw [sizeLine_eq]; omega

section
variable {X : Cx} {a b c : Expr} {f g h : FE} {pos : Pos}
theorem d_var (i : Nat) {x : Str} {pos : Pos} (hN : X.N[i]? = some x := by rfl) (hv : Vis X.env.scope x := by first | exact Or.inl rfl | exact Or.inr (Or.inl rfl) | exact Or.inr (Or.inr rfl)) (hd : (x == ("__debug__" : Str)) = false := by decide)
    (hcd : (x == ("__classdict__" : Str)) = false := by decide) : DE X (.Name x pos) (eVar i) := (pe_var hN hv hd hcd).imp fun σ H Q ⟨S, δ, st, d, st', rs, so, e, q⟩ => by
  obtain ⟨e1, e2⟩ := of_inv e
  subst e2
  obtain ⟨v, L, h1, h2⟩ := rs.at_ i d e1
  exact ⟨v, h1, q v H L HE.refl so h2⟩
theorem d_const {d : D} {v : V} {e : Expr} (p : PE X e (tC v)) (r : ∀ S H, Rp S H v d []) : DE X e (eC d) := p.imp fun σ H Q ⟨S, δ, st, d', st', rs, so, e, q⟩ => by
  obtain ⟨e1, e2⟩ := ret_inv e
  subst e1 e2
  exact q v H [] HE.refl so (r S H)
theorem d_int {i j pos} : DE X (.Constant (.int i) j pos) (eC (.int i)) := d_const pe_int fun _ _ => .int i
theorem d_bl {b j pos} : DE X (.Constant (.bool b) j pos) (eC (.bl b)) := d_const pe_bl fun _ _ => .bl b
theorem d_non {j pos} : DE X (.Constant .none j pos) (eC .non) := d_const pe_non fun _ _ => .non
theorem d_str {x j pos} : DE X (.Constant (.str x) j pos) (eC (.str x)) := d_const pe_str fun _ _ => .str x
/-- a module's constant -/
theorem d_glob {x : Str} {v : V} {d : D} {u : Value} {pos : Pos} (hg : Gl X x) (hm : X.mg x = some u) (r : RelV v u) (rd : ∀ S H, Rp S H v d []) (hd : (x == ("__debug__" : Str)) = false := by decide) : DE X (.Name x pos) (eC d) := d_const (pe_glob hg hm r hd) rd

theorem t2_imp {o : D → D → Option D} : ∀ σ H Q, tD (e2 o f g) σ H Q → tOp (rD2 o) (tD f) (tD g) σ H Q := fun σ H Q ⟨S, δ, st, d, st', rs, so, e, q⟩ => by
  obtain ⟨x, s1, ea, e⟩ := bd_inv e
  obtain ⟨y, s2, eb, e⟩ := bd_inv e
  obtain ⟨eo, es⟩ := of_inv e
  subst es
  refine ⟨S, δ, st, x, s1, rs, so, ea, fun v H1 L1 x1 so1 r1 => ⟨S, δ, s1, y, _, rs.extS x1, so1, eb, fun w H2 L2 x2 so2 r2 => ⟨S, x, y, d, L1, L2, so2.tr, r1.extS x2, r2, eo, fun z H3 L3 x3 r3 => q z H3 L3 (x1.trans (x2.trans x3.up0)) (so2.ext0 x3) r3⟩⟩⟩
theorem d_op {op : Operator} {o : D → D → Option D} (ho : OpR X (binaryOp op) (rD2 o)) (ha : DE X a f) (hb : DE X b g) : DE X (.BinOp a op b pos) (e2 o f g) := (pe_op ho ha hb).imp t2_imp
theorem d_ix {o : D → D → Option D} (ho : IxR X (rD2 o)) (ha : DE X a f) (hb : DE X b g) (hs : PlainIx b := by intro _ _; rfl) : DE X (.Subscript a b pos) (e2 o f g) := (pe_ix ho ha hb hs).imp t2_imp
theorem d_cmp {op : CmpOp} {o : D → D → Option D} (ho : OpR X (compareOp op) (rD2 o)) (ha : DE X a f) (hb : DE X b g) (hm : behindInMarks op b = false := by first | exact nomark _ | rfl) : DE X (.Compare a [op] [b] pos) (e2 o f g) := (pe_cmpR ho ha hb hm).imp t2_imp
theorem d_un {op : UnaryOp} {o : D → Option D} (ho : UnR X (unaryOp op) (rD1 o)) (ha : DE X a f) : DE X (.UnaryOp op a pos) (e1 o f) := (pe_un ho ha).imp fun σ H Q ⟨S, δ, st, d, st', rs, so, e, q⟩ => by
  obtain ⟨x, s1, ea, e⟩ := bd_inv e
  obtain ⟨eo, es⟩ := of_inv e
  subst es
  exact ⟨S, δ, st, x, _, rs, so, ea, fun v H1 L1 x1 so1 r1 => ⟨S, x, d, L1, so1.tr, r1, eo, fun z H3 L3 x3 r3 => q z H3 L3 (x1.trans x3.up0) (so1.ext0 x3) r3⟩⟩

/-! tests -/
/-- a bool as a test -/
def bOf (f : FE) : Ev → M Bool := fun δ => (f δ).bd fun d => M.of (match d with | .bl k => some k | _ => none)
theorem bOf_inv {f : FE} {δ : Ev} {st st' : Src} {k : Bool} (h : bOf f δ st = some (k, st')) : f δ st = some (.bl k, st') := by
  obtain ⟨d, s1, ea, e⟩ := bd_inv h
  obtain ⟨eo, es⟩ := of_inv e
  subst es
  cases d <;> simp at eo
  subst eo
  exact ea
theorem tB_of {f : FE} : ∀ σ H Q, tBo (bOf f) σ H Q → tTest (tD f) σ H Q := fun σ H Q ⟨S, δ, st, d, st', rs, so, e, q⟩ => by
  refine ⟨S, δ, st, _, st', rs, so, bOf_inv e, fun v H1 L1 x1 so1 r1 => ?_⟩
  cases r1
  exact ⟨d, rfl, q H1 x1 so1⟩
theorem dt_cmp {op : CmpOp} {o : D → D → Option D} (ho : OpR X (compareOp op) (rD2 o)) (ha : DE X a f) (hb : DE X b g) (hm : behindInMarks op b = false := by first | exact nomark _ | rfl) : DT X (.Compare a [op] [b] pos) (bOf (e2 o f g)) :=
  (pt_cmpR ho ha hb hm).imp fun σ H Q w => by
    obtain ⟨S, δ, st, d, st', rs, so, e, q⟩ := tB_of σ H Q w
    exact t2_imp σ H _ ⟨S, δ, st, d, st', rs, so, e, q⟩
theorem dt_val {e : Expr} (he : DE X e f) (h : ∀ whole, isTrue e X.env whole = (do let v ← whole; standAt e.pos; holding [v] (truthy v)) := by intro _; rfl) : DT X e (bOf f) :=
  (pt_val he h).imp fun σ H Q w => tB_of σ H Q w
/-- truth of data -/
def truD : D → Option Bool
  | .non => some false
  | .bl b => some b
  | .int i => some (i != 0)
  | .tup xs => some (!xs.isEmpty)
  | .lst xs => some (!xs.isEmpty)
  | .tupk xs => some (!xs.isEmpty)
  | _ => none
theorem Rps.isEmpty {S : Sr} {H : Hp} {vs : List V} {ds : List D} {L : List Addr} (r : Rps S H vs ds L) : vs.isEmpty = ds.isEmpty := by
  cases r <;> rfl
theorem truD_ok {K : PySem.W.Frag} {S : Sr} {H : Hp} {v : V} {d : D} {L : List Addr} {k : Bool} (r : Rp S H v d L) (h : truD d = some k) : TruV K v H k := by
  cases r with
  | non => cases h; rfl
  | bl => cases h; rfl
  | int => cases h; rfl
  | str => cases h
  | src => cases h
  | dct => cases h
  | tup e rs =>
    have : k = !_ := (Option.some.inj h).symm
    exact .inr (.inl ⟨_, SqT.of e, by rw [rs.isEmpty]; exact this⟩)
  | tupk e _ rs =>
    have : k = !_ := (Option.some.inj h).symm
    exact .inr (.inl ⟨_, .inl (.inr ⟨_, e⟩), by rw [rs.isEmpty]; exact this⟩)
  | lst e n rs =>
    have : k = !_ := (Option.some.inj h).symm
    exact .inl ⟨_, SqL.of e, by rw [rs.isEmpty]; exact this⟩
def bTr (f : FE) : Ev → M Bool := fun δ => (f δ).bd fun d => M.of (truD d)
theorem dt_tr {e : Expr} (he : DE X e f) (h : ∀ whole, isTrue e X.env whole = (do let v ← whole; standAt e.pos; holding [v] (truthy v)) := by intro _; rfl) : DT X e (bTr f) :=
  (pt_truth he h).imp fun σ H Q ⟨S, δ, st, d, st', rs, so, e, q⟩ => by
    obtain ⟨x, s1, ea, e⟩ := bd_inv e
    obtain ⟨eo, es⟩ := of_inv e
    subst es
    exact ⟨S, δ, st, x, _, rs, so, ea, fun v H1 L1 x1 so1 r1 => ⟨d, truD_ok r1 eo, q H1 x1 so1⟩⟩
def bAnd (f g : Ev → M Bool) : Ev → M Bool := fun δ => (f δ).bd fun k => if k = true then g δ else M.ret false
def bOr (f g : Ev → M Bool) : Ev → M Bool := fun δ => (f δ).bd fun k => if k = true then M.ret true else g δ
def bNot (f : Ev → M Bool) : Ev → M Bool := fun δ => (f δ).bd fun k => M.ret (!k)
variable {p q : Ev → M Bool} {rest : List Expr}
theorem dw_and1 (ha : DT X a p) : DW X (.BoolOp .And [a] pos) p := pw_and1 ha
theorem dw_or1 (ha : DT X a p) : DW X (.BoolOp .Or [a] pos) p := pw_or1 ha
theorem dw_and (ha : DT X a p) (hb : DW X (.BoolOp .And (b :: rest) pos) q) : DW X (.BoolOp .And (a :: b :: rest) pos) (bAnd p q) := (pw_and ha hb).imp fun σ H Q ⟨S, δ, st, d, st', rs, so, e, w⟩ => by
  obtain ⟨x, s1, ea, e⟩ := bd_inv e
  refine ⟨S, δ, st, x, s1, rs, so, ea, fun H1 x1 so1 => ?_⟩
  cases x with
  | true =>
    rw [if_pos rfl] at e ⊢
    exact ⟨S, δ, s1, d, st', rs.extS x1, so1, e, fun H2 x2 so2 => w H2 (x1.trans x2) so2⟩
  | false =>
    rw [if_neg Bool.false_ne_true] at e ⊢
    obtain ⟨e1, e2⟩ := ret_inv e
    subst e1 e2
    exact w H1 x1 so1
theorem dw_or (ha : DT X a p) (hb : DW X (.BoolOp .Or (b :: rest) pos) q) : DW X (.BoolOp .Or (a :: b :: rest) pos) (bOr p q) := (pw_or ha hb).imp fun σ H Q ⟨S, δ, st, d, st', rs, so, e, w⟩ => by
  obtain ⟨x, s1, ea, e⟩ := bd_inv e
  refine ⟨S, δ, st, x, s1, rs, so, ea, fun H1 x1 so1 => ?_⟩
  cases x with
  | true =>
    rw [if_pos rfl] at e ⊢
    obtain ⟨e1, e2⟩ := ret_inv e
    subst e1 e2
    exact w H1 x1 so1
  | false =>
    rw [if_neg Bool.false_ne_true] at e ⊢
    exact ⟨S, δ, s1, d, st', rs.extS x1, so1, e, fun H2 x2 so2 => w H2 (x1.trans x2) so2⟩
theorem dt_not (ha : DT X a p) : DT X (.UnaryOp .Not a pos) (bNot p) := (pt_not ha).imp fun σ H Q ⟨S, δ, st, d, st', rs, so, e, w⟩ => by
  obtain ⟨x, s1, ea, e⟩ := bd_inv e
  obtain ⟨e1, e2⟩ := ret_inv e
  subst e1 e2
  exact ⟨S, δ, st, x, _, rs, so, ea, fun H1 x1 so1 => w H1 x1 so1⟩
/-- and, or, not as values of bools -/
def eAnd (f g : FE) : FE := fun δ => (f δ).bd fun d => match d with | .bl true => g δ | .bl false => M.ret (.bl false) | _ => M.no
def eOr (f g : FE) : FE := fun δ => (f δ).bd fun d => match d with | .bl true => M.ret (.bl true) | .bl false => g δ | _ => M.no
def eNot (f : FE) : FE := e1 (fun d => match d with | .bl k => some (.bl (!k)) | _ => none) f
theorem d_one {op} (h : DE X a f) : DE X (.BoolOp op [a] pos) f := pe_one h
theorem d_and (ha : DE X a f) (hb : DE X (.BoolOp .And (b :: rest) pos) g) : DE X (.BoolOp .And (a :: b :: rest) pos) (eAnd f g) := (pe_and ha hb).imp fun σ H Q ⟨S, δ, st, d, st', rs, so, e, w⟩ => by
  obtain ⟨x, s1, ea, e⟩ := bd_inv e
  refine ⟨S, δ, st, x, s1, rs, so, ea, fun v H1 L1 x1 so1 r1 => ?_⟩
  cases x with
  | bl k =>
    cases r1
    refine ⟨k, rfl, ?_⟩
    cases k with
    | true =>
      rw [if_pos rfl]
      exact ⟨S, δ, s1, d, st', rs.extS x1, so1, e, fun v H2 L x2 so2 r => w v H2 L (x1.trans x2) so2 r⟩
    | false =>
      rw [if_neg Bool.false_ne_true]
      obtain ⟨e1, e2⟩ := ret_inv e
      subst e1 e2
      exact w _ H1 [] x1 so1 (.bl false)
  | _ => cases e
theorem d_or (ha : DE X a f) (hb : DE X (.BoolOp .Or (b :: rest) pos) g) : DE X (.BoolOp .Or (a :: b :: rest) pos) (eOr f g) := (pe_or ha hb).imp fun σ H Q ⟨S, δ, st, d, st', rs, so, e, w⟩ => by
  obtain ⟨x, s1, ea, e⟩ := bd_inv e
  refine ⟨S, δ, st, x, s1, rs, so, ea, fun v H1 L1 x1 so1 r1 => ?_⟩
  cases x with
  | bl k =>
    cases r1
    refine ⟨k, rfl, ?_⟩
    cases k with
    | false =>
      rw [if_neg Bool.false_ne_true]
      exact ⟨S, δ, s1, d, st', rs.extS x1, so1, e, fun v H2 L x2 so2 r => w v H2 L (x1.trans x2) so2 r⟩
    | true =>
      rw [if_pos rfl]
      obtain ⟨e1, e2⟩ := ret_inv e
      subst e1 e2
      exact w _ H1 [] x1 so1 (.bl true)
  | _ => cases e
theorem d_not (ha : DE X a f) : DE X (.UnaryOp .Not a pos) (eNot f) := (pe_not ha).imp fun σ H Q ⟨S, δ, st, d, st', rs, so, e, w⟩ => by
  obtain ⟨x, s1, ea, e⟩ := bd_inv e
  obtain ⟨eo, es⟩ := of_inv e
  subst es
  refine ⟨S, δ, st, x, _, rs, so, ea, fun v H1 L1 x1 so1 r1 => ?_⟩
  cases x with
  | bl k =>
    cases r1
    have : D.bl (!k) = d := Option.some.inj eo
    subst this
    exact ⟨k, rfl, w _ H1 [] x1 so1 (.bl _)⟩
  | _ => cases eo
theorem d_if {c : Expr} (hc : DT X c p) (ha : DE X a f) (hb : DE X b g) : DE X (.IfExp c a b pos) (eIf p f g) := (pe_ifExp hc ha hb).imp fun σ H Q ⟨S, δ, st, d, st', rs, so, e, w⟩ => by
  obtain ⟨x, s1, ea, e⟩ := bd_inv e
  refine ⟨S, δ, st, x, s1, rs, so, ea, fun H1 x1 so1 => ?_⟩
  cases x with
  | true =>
    rw [if_pos rfl] at e ⊢
    exact ⟨S, δ, s1, d, st', rs.extS x1, so1, e, fun v H2 L x2 so2 r => w v H2 L (x1.trans x2) so2 r⟩
  | false =>
    rw [if_neg Bool.false_ne_true] at e ⊢
    exact ⟨S, δ, s1, d, st', rs.extS x1, so1, e, fun v H2 L x2 so2 r => w v H2 L (x1.trans x2) so2 r⟩

/-! displays -/
variable {es : List Expr} {fs : Ev → M (List D)}
theorem da_nil : DA X [] eAs0 := pa_nil.imp fun σ H Q ⟨S, δ, st, ds, st', rs, so, e, w⟩ => by
  obtain ⟨e1, e2⟩ := ret_inv e
  subst e1 e2
  exact w [] H [] HE.refl so .nil
theorem da_cons (ha : DE X a f) (hr : DA X es fs) (hs : starEach (a :: es) X.env = (false, eval a X.env) :: starEach es X.env := by rfl) : DA X (a :: es) (eAs f fs) := (pa_cons ha hr hs).imp fun σ H Q ⟨S, δ, st, ds, st', rs, so, e, w⟩ => by
  obtain ⟨x, s1, ea, e⟩ := bd_inv e
  obtain ⟨y, s2, eb, e⟩ := bd_inv e
  obtain ⟨e1, e2⟩ := ret_inv e
  subst e1 e2
  exact ⟨S, δ, st, x, s1, rs, so, ea, fun v H1 L1 x1 so1 r1 => ⟨S, δ, s1, y, _, rs.extS x1, so1, eb, fun vs H2 L2 x2 so2 r2 => w (v :: vs) H2 _ (x1.trans x2) so2 (.cons (r1.extS x2) r2)⟩⟩
theorem d_tup {x1} (h : DA X es fs) : DE X (.Tuple es x1 pos) (eTup fs) := (pe_tup h).imp fun σ H Q ⟨S, δ, st, d, st', rs, so, e, w⟩ => by
  obtain ⟨ds, s1, ea, e⟩ := bd_inv e
  obtain ⟨eo, es'⟩ := of_inv e
  subst es'
  by_cases hz : ds.length ≤ 1000000
  · rw [if_pos hz] at eo
    have : D.tup ds = d := Option.some.inj eo
    subst this
    refine ⟨S, δ, st, ds, _, rs, so, ea, fun vs H1 L1 x1 so1 r1 => ⟨size_ok (by rw [r1.len]; exact hz), fun p np => ?_⟩⟩
    have he : HE0 H1 (upd H1 p (.tup vs)) := HE.fresh np
    exact w (.ref p) _ L1 (x1.trans he.up0) (so1.ext0 he) (.tup upd_same (r1.ext0 he))
  · rw [if_neg hz] at eo; cases eo
theorem d_lst (h : DA X es fs) : DE X (.List es pos) (eLst fs) := (pe_lst h).imp fun σ H Q ⟨S, δ, st, d, st', rs, so, e, w⟩ => by
  obtain ⟨ds, s1, ea, e⟩ := bd_inv e
  obtain ⟨eo, es'⟩ := of_inv e
  subst es'
  by_cases hz : ds.length ≤ 1000000
  · rw [if_pos hz] at eo
    have : D.lst ds = d := Option.some.inj eo
    subst this
    refine ⟨S, δ, st, ds, _, rs, so, ea, fun vs H1 L1 x1 so1 r1 => ⟨size_ok (by rw [r1.len]; exact hz), fun p np => ?_⟩⟩
    have he : HE0 H1 (upd H1 p (.lst vs)) := HE.fresh np
    exact w (.ref p) _ (p :: L1) (x1.trans he.up0) (so1.ext0 he) (.lst upd_same (fun z => so1.tr _ z np) (r1.ext0 he))
  · rw [if_neg hz] at eo; cases eo
end
end DL
set_option Elab.async false
set_option linter.all false
set_option maxRecDepth 100000
set_option maxHeartbeats 4000000
/-! DL2: operations over data: arithmetic, comparisons, subscripts, slices, built-in calls. -/
namespace DL
open PySem PySem.Spec PyProof.Rows L2

/-! ### the operations -/
def dAdd : D → D → Option D
  | .int i, .int j => some (.int (i + j))
  | .tup xs, .tup ys => if xs.length + ys.length ≤ 1000000 then some (.tup (xs ++ ys)) else none
  | .lst xs, .lst ys => if xs.length + ys.length ≤ 1000000 then some (.lst (xs ++ ys)) else none
  | _, _ => none
def dSub : D → D → Option D
  | .int i, .int j => some (.int (i - j))
  | _, _ => none
def mulC (i j : Int) : Bool := decide (i.natAbs < 2 ^ 64) || decide (j.natAbs < 2 ^ 64) || decide (i.natAbs.log2 + j.natAbs.log2 < 1000000)
def dMul : D → D → Option D
  | .int i, .int j => if mulC i j = true then some (.int (i * j)) else none
  | .lst xs, .int k => if -1000 ≤ k ∧ k ≤ 1000 ∧ xs.length ≤ 1000 ∧ lfs xs = true then some (.lst (List.replicate k.toNat xs).flatten) else none
  | _, _ => none
def dDiv : D → D → Option D
  | .int i, .int j => if 0 < j ∧ j.natAbs.log2 < 9000 then some (.int (i / j)) else none
  | _, _ => none
def dMod : D → D → Option D
  | .int i, .int j => if 0 < j then some (.int (i % j)) else none
  | _, _ => none
def dPow : D → D → Option D
  | .int i, .int j => if 0 ≤ j ∧ j ≤ 1000 ∧ i.natAbs < 2 ^ 64 then some (.int (i ^ j.toNat)) else none
  | _, _ => none
def dNeg : D → Option D
  | .int i => some (.int (-i))
  | _ => none
def dLt : D → D → Option D
  | .int i, .int j => some (.bl (decide (i < j)))
  | _, _ => none
def dLe : D → D → Option D
  | .int i, .int j => some (.bl (decide (i ≤ j)))
  | _, _ => none
def dGt : D → D → Option D
  | .int i, .int j => some (.bl (decide (j < i)))
  | _, _ => none
def dGe : D → D → Option D
  | .int i, .int j => some (.bl (decide (j ≤ i)))
  | _, _ => none

mutual
def D.py : D → PyData
  | .non => .none
  | .bl b => .bool b
  | .int i => .int i
  | .str x => .str x
  | .tup xs => .tuple (pys xs)
  | .lst xs => .list (pys xs)
  | .src => .none
  | .dct _ => .none
  | .tupk xs => .tuple (pys xs)
def pys : List D → List PyData
  | [] => []
  | d :: ds => d.py :: pys ds
end
/-- data without the source, texts of signs, at most n deep -/
def dOk : Nat → D → Bool
  | _, .non => true
  | _, .bl _ => true
  | _, .int _ => true
  | _, .str x => PyData.strOk x
  | 0, .tup _ => false
  | 0, .lst _ => false
  | 0, .tupk _ => false
  | n + 1, .tupk xs => xs.all (dOk n)
  | n + 1, .tup xs => xs.all (dOk n)
  | n + 1, .lst xs => xs.all (dOk n)
  | _, .src => false
  | _, .dct _ => false
theorem dOk_ok : ∀ (n : Nat) (d : D), dOk n d = true → d.py.canLay0 = true ∧ d.py.depth ≤ n := by
  intro n
  induction n with
  | zero => intro d h; cases d <;> simp_all [dOk, D.py, PyData.canLay0, PyData.depth]
  | succ n ih =>
    have all : ∀ xs : List D, xs.all (dOk n) = true → PyData.canLayAll0 (pys xs) = true ∧ PyData.depthAll (pys xs) ≤ n := by
      intro xs
      induction xs with
      | nil => intro _; simp [pys, PyData.canLayAll0, PyData.depthAll]
      | cons x xs ih2 =>
        intro h
        rw [List.all_cons, Bool.and_eq_true] at h
        obtain ⟨a1, a2⟩ := ih x h.1
        obtain ⟨b1, b2⟩ := ih2 h.2
        simp [pys, PyData.canLayAll0, PyData.depthAll, a1, b1]
        omega
    intro d h
    cases d with
    | tup xs =>
      obtain ⟨a, b⟩ := all xs (by simpa [dOk] using h)
      simp [D.py, PyData.canLay0, PyData.depth, a]; omega
    | lst xs =>
      obtain ⟨a, b⟩ := all xs (by simpa [dOk] using h)
      simp [D.py, PyData.canLay0, PyData.depth, a]; omega
    | tupk xs =>
      obtain ⟨a, b⟩ := all xs (by simpa [dOk] using h)
      simp [D.py, PyData.canLay0, PyData.depth, a]; omega
    | _ => simp_all [dOk, D.py, PyData.canLay0, PyData.depth]
theorem dOk_shaped {d : D} (h : dOk 8 d = true) : SeqAt.shaped d.py = true := by
  obtain ⟨a, b⟩ := dOk_ok 8 d h
  unfold SeqAt.shaped
  rw [a, Bool.true_and]
  exact decide_eq_true (by omega)
mutual
theorem Rp.dp {K : PySem.W.Frag} {S : Sr} {H : Hp} {v : V} {d : D} {L : List Addr} (r : Rp S H v d L) (n : Nat) (h : dOk n d = true) : Dp K H v d.py := by
  cases r with
  | non => rw [D.py]; exact .non
  | bl b => rw [D.py]; exact .bl b
  | int i => rw [D.py]; exact .int i
  | str x => rw [D.py]; exact .str x
  | src => simp [dOk] at h
  | dct => simp [dOk] at h
  | tup e rs =>
    rw [D.py]
    cases n with
    | zero => simp [dOk] at h
    | succ n => exact .tup (SqT.of e) (rs.dp n (by simpa [dOk] using h))
  | tupk e _ rs =>
    rw [D.py]
    cases n with
    | zero => simp [dOk] at h
    | succ n => exact .tup (.inl (.inr ⟨_, e⟩)) (rs.dp n (by simpa [dOk] using h))
  | lst e _ rs =>
    rw [D.py]
    cases n with
    | zero => simp [dOk] at h
    | succ n => exact .lst (SqL.of e) (rs.dp n (by simpa [dOk] using h))
theorem Rps.dp {K : PySem.W.Frag} {S : Sr} {H : Hp} {vs : List V} {ds : List D} {L : List Addr} (r : Rps S H vs ds L) (n : Nat) (h : ∀ x ∈ ds, dOk n x = true) : DpAll K H vs (pys ds) := by
  cases r with
  | nil => rw [pys]; exact .nil
  | cons r rs =>
    rw [pys]
    exact .cons (r.dp n (h _ List.mem_cons_self)) (rs.dp n fun x hx => h x (List.mem_cons_of_mem _ hx))
end
def D.eqv (a b : D) : Bool := PyData.eqv a.py b.py
def dEq (a b : D) : Option D := if (dOk 8 a && dOk 8 b) = true then some (.bl (a.eqv b)) else none
def dNe (a b : D) : Option D := if (dOk 8 a && dOk 8 b) = true then some (.bl (!a.eqv b)) else none
def D.isNon : D → Bool
  | .non => true
  | _ => false
def dIs : D → D → Option D
  | a, .non => some (.bl a.isNon)
  | .bl a, .bl b => some (.bl (decide (a = b)))
  | _, _ => none
def dIsN : D → D → Option D
  | a, .non => some (.bl (!a.isNon))
  | .bl a, .bl b => some (.bl (!decide (a = b)))
  | _, _ => none
def flatD : D → Bool
  | .non => true
  | .bl _ => true
  | .int _ => true
  | .str _ => true
  | _ => false
def eqF : D → D → Bool
  | .non, .non => true
  | .bl a, .bl b => a == b
  | .bl a, .int b => (if a then 1 else 0) == b
  | .int a, .bl b => a == (if b then 1 else 0)
  | .int a, .int b => a == b
  | .str a, .str b => a == b
  | _, _ => false
def D.items : D → Option (List D)
  | .tup xs => some xs
  | .lst xs => some xs
  | .tupk xs => some xs
  | _ => none
def inD (x : D) (xs : List D) : Bool := xs.any fun y => eqF y x
def dIn (a b : D) : Option D := b.items.bind fun xs => if (flatD a && xs.all flatD) = true then some (.bl (inD a xs)) else none
def dNotIn (a b : D) : Option D := b.items.bind fun xs => if (flatD a && xs.all flatD) = true then some (.bl (!inD a xs)) else none
def dIx (a b : D) : Option D := match b with
  | .int i => a.items.bind fun xs => atI xs i
  | _ => none

theorem Rp.flat {S : Sr} {H : Hp} {v : V} {d : D} {L : List Addr} (r : Rp S H v d L) (h : flatD d = true) : flatV v = true := by
  cases r <;> simp_all [flatD, flatV]
theorem Rps.flats {S : Sr} {H : Hp} {vs : List V} {ds : List D} {L : List Addr} (r : Rps S H vs ds L) (h : ds.all flatD = true) : vs.all flatV = true := by
  induction ds generalizing vs L with
  | nil => cases r; rfl
  | cons d ds ih =>
    cases r with
    | cons r rs =>
      rw [List.all_cons, Bool.and_eq_true] at h
      rw [List.all_cons, r.flat h.1, ih rs h.2]; rfl
theorem Rp.eqF {S : Sr} {H : Hp} {v u : V} {d e : D} {L L' : List Addr} (r : Rp S H v d L) (r' : Rp S H u e L') (h : flatD d = true) (h' : flatD e = true) : eqV v u = eqF d e := by
  cases r <;> cases r' <;> simp_all [flatD, eqV, DL.eqF]
theorem Rps.inD {S : Sr} {H : Hp} {u : V} {e : D} {L' : List Addr} (r' : Rp S H u e L') (h' : flatD e = true) {vs : List V} {ds : List D} {L : List Addr} (r : Rps S H vs ds L) (h : ds.all flatD = true) : inV u vs = inD e ds := by
  induction ds generalizing vs L with
  | nil => cases r; rfl
  | cons d ds ih =>
    cases r with
    | cons r rs =>
      rw [List.all_cons, Bool.and_eq_true] at h
      have := ih rs h.2
      unfold inV DL.inD at *
      rw [List.any_cons, List.any_cons, this, r.eqF r' h.1 h']
theorem Rp.items {S : Sr} {H : Hp} {v : V} {d : D} {L : List Addr} {xs : List D} (r : Rp S H v d L) (h : d.items = some xs) : ∃ p vs L', v = .ref p ∧ (Rd H p (.lst vs) ∨ Rd H p (.tup vs)) ∧ Rps S H vs xs L' := by
  cases r with
  | tup e rs => cases h; exact ⟨_, _, _, rfl, .inr (.inl e), rs⟩
  | lst e _ rs => cases h; exact ⟨_, _, _, rfl, .inl (.inl e), rs⟩
  | tupk e _ rs => cases h; exact ⟨_, _, _, rfl, .inr (.inr ⟨_, e⟩), rs⟩
  | _ => cases h
theorem Rps.repl {S : Sr} {H : Hp} {vs : List V} {ds : List D} (r : Rps S H vs ds []) : ∀ n : Nat, Rps S H (List.replicate n vs).flatten (List.replicate n ds).flatten []
  | 0 => by simpa using Rps.nil
  | n + 1 => by
    rw [List.replicate_succ, List.flatten_cons, List.replicate_succ, List.flatten_cons]
    exact r.append (Rps.repl r n)

section
variable {X : Cx}
theorem o_add : OpR X (binaryOp .Add) (rD2 dAdd) := (op_add.or (op_catA.or op_cat)).imp fun x y H Q ⟨S, a, b, d, La, Lb, hn, ra, rb, e, q⟩ => by
  cases a with
  | int i =>
    cases b with
    | int j =>
      cases e
      obtain ⟨rfl, rfl⟩ := ra.iint
      obtain ⟨rfl, rfl⟩ := rb.iint
      exact .inl ⟨i, j, rfl, rfl, q _ _ _ HE.refl (.int _)⟩
    | _ => cases e
  | tup xs =>
    cases b with
    | tup ys =>
      obtain ⟨a, vs, rfl, ea, rsa⟩ := ra.itup
      obtain ⟨b, ws, rfl, eb, rsb⟩ := rb.itup
      have e : (if xs.length + ys.length ≤ 1000000 then some (D.tup (xs ++ ys)) else none) = some d := e
      by_cases hz : xs.length + ys.length ≤ 1000000
      · rw [if_pos hz] at e
        cases e
        refine .inr (.inl ⟨_, _, _, _, rfl, rfl, SqT.of ea, SqT.of eb, size_ok (by rw [rsa.len, rsb.len]; exact hz), fun h0 => ?_, fun _ h0 => ?_, fun _ _ p np => ?_⟩)
        · subst h0
          have hx : xs = [] := List.length_eq_zero_iff.mp rsa.len.symm
          subst hx
          exact q _ _ _ HE.refl (.tup eb rsb)
        · subst h0
          have hx : ys = [] := List.length_eq_zero_iff.mp rsb.len.symm
          subst hx
          exact q _ _ _ HE.refl (.tup ea (by simpa using rsa))
        · exact q _ _ _ (HE.fresh np) (.tup upd_same ((rsa.append rsb).ext0 (HE.fresh np)))
      · rw [if_neg hz] at e; cases e
    | _ => cases e
  | lst xs =>
    cases b with
    | lst ys =>
      obtain ⟨a, vs, L1, rfl, ea, na, rsa, rfl⟩ := ra.ilst
      obtain ⟨b, ws, L2, rfl, eb, nb, rsb, rfl⟩ := rb.ilst
      have e : (if xs.length + ys.length ≤ 1000000 then some (D.lst (xs ++ ys)) else none) = some d := e
      by_cases hz : xs.length + ys.length ≤ 1000000
      · rw [if_pos hz] at e
        cases e
        refine .inr (.inr ⟨_, _, _, _, rfl, rfl, ea, eb, size_ok (by rw [rsa.len, rsb.len]; exact hz), fun p np => ?_⟩)
        exact q _ _ _ (HE.fresh np) (.lst upd_same (fun z => hn _ z np) ((rsa.append rsb).ext0 (HE.fresh np)))
      · rw [if_neg hz] at e; cases e
    | _ => cases e
  | _ => cases e
theorem o_ints {f : Value → Value → Sem Value} {g : Int → Int → V} {o : D → D → Option D} {gD : Int → Int → D} (h : OpR X f (rI0 g)) (ho : ∀ a b d, o a b = some d → ∃ i j, a = .int i ∧ b = .int j ∧ d = gD i j)
    (hg : ∀ S H i j, Rp S H (g i j) (gD i j) []) : OpR X f (rD2 o) := h.imp fun x y H Q ⟨S, a, b, d, La, Lb, hn, ra, rb, e, q⟩ => by
  obtain ⟨i, j, rfl, rfl, rfl⟩ := ho _ _ _ e
  obtain ⟨rfl, rfl⟩ := ra.iint
  obtain ⟨rfl, rfl⟩ := rb.iint
  exact ⟨i, j, rfl, rfl, q _ _ _ HE.refl (hg S H i j)⟩
theorem o_intsC {f : Value → Value → Sem Value} {C : Int → Int → Prop} {g : Int → Int → V} {o : D → D → Option D} {gD : Int → Int → D} (h : OpR X f (rI C g)) (ho : ∀ a b d, o a b = some d → ∃ i j, a = .int i ∧ b = .int j ∧ C i j ∧ d = gD i j)
    (hg : ∀ S H i j, Rp S H (g i j) (gD i j) []) : OpR X f (rD2 o) := h.imp fun x y H Q ⟨S, a, b, d, La, Lb, hn, ra, rb, e, q⟩ => by
  obtain ⟨i, j, rfl, rfl, c, rfl⟩ := ho _ _ _ e
  obtain ⟨rfl, rfl⟩ := ra.iint
  obtain ⟨rfl, rfl⟩ := rb.iint
  exact ⟨i, j, rfl, rfl, c, q _ _ _ HE.refl (hg S H i j)⟩
theorem o_sub : OpR X (binaryOp .Sub) (rD2 dSub) := o_ints (gD := fun i j => .int (i - j)) op_sub (fun a b d e => by cases a <;> cases b <;> cases e; exact ⟨_, _, rfl, rfl, rfl⟩) fun _ _ _ _ => .int _
theorem o_lt : OpR X (compareOp .Lt) (rD2 dLt) := o_ints (gD := fun i j => .bl (decide (i < j))) op_lt (fun a b d e => by cases a <;> cases b <;> cases e; exact ⟨_, _, rfl, rfl, rfl⟩) fun _ _ _ _ => .bl _
theorem o_le : OpR X (compareOp .LtE) (rD2 dLe) := o_ints (gD := fun i j => .bl (decide (i ≤ j))) op_le (fun a b d e => by cases a <;> cases b <;> cases e; exact ⟨_, _, rfl, rfl, rfl⟩) fun _ _ _ _ => .bl _
theorem o_gt : OpR X (compareOp .Gt) (rD2 dGt) := o_ints (gD := fun i j => .bl (decide (j < i))) op_gt (fun a b d e => by cases a <;> cases b <;> cases e; exact ⟨_, _, rfl, rfl, rfl⟩) fun _ _ _ _ => .bl _
theorem o_ge : OpR X (compareOp .GtE) (rD2 dGe) := o_ints (gD := fun i j => .bl (decide (j ≤ i))) op_ge (fun a b d e => by cases a <;> cases b <;> cases e; exact ⟨_, _, rfl, rfl, rfl⟩) fun _ _ _ _ => .bl _
theorem o_div : OpR X (binaryOp .FloorDiv) (rD2 dDiv) := o_intsC (gD := fun i j => .int (i / j)) op_fdivW (fun a b d e => by
  cases a <;> cases b <;> first | cases e | skip
  rename_i i j
  have e : (if 0 < j ∧ j.natAbs.log2 < 9000 then some (D.int (i / j)) else none) = some d := e
  by_cases h : 0 < j ∧ j.natAbs.log2 < 9000
  · rw [if_pos h] at e; cases e; exact ⟨_, _, rfl, rfl, h, rfl⟩
  · rw [if_neg h] at e; cases e) fun _ _ _ _ => .int _
theorem o_mod : OpR X (binaryOp .Mod) (rD2 dMod) := o_intsC (gD := fun i j => .int (i % j)) op_mod (fun a b d e => by
  cases a <;> cases b <;> first | cases e | skip
  rename_i i j
  have e : (if 0 < j then some (D.int (i % j)) else none) = some d := e
  by_cases h : 0 < j
  · rw [if_pos h] at e; cases e; exact ⟨_, _, rfl, rfl, h, rfl⟩
  · rw [if_neg h] at e; cases e) fun _ _ _ _ => .int _
theorem o_pow : OpR X (binaryOp .Pow) (rD2 dPow) := o_intsC (gD := fun i j => .int (i ^ j.toNat)) op_pow (fun a b d e => by
  cases a <;> cases b <;> first | cases e | skip
  rename_i i j
  have e : (if 0 ≤ j ∧ j ≤ 1000 ∧ i.natAbs < 2 ^ 64 then some (D.int (i ^ j.toNat)) else none) = some d := e
  by_cases h : 0 ≤ j ∧ j ≤ 1000 ∧ i.natAbs < 2 ^ 64
  · rw [if_pos h] at e; cases e; exact ⟨_, _, rfl, rfl, ⟨h.1, by omega, h.2.2⟩, rfl⟩
  · rw [if_neg h] at e; cases e) fun _ _ _ _ => .int _
theorem mulC_ok {i j : Int} (h : mulC i j = true) : CMul i j ∨ CMulW i j := by
  unfold mulC at h
  simp only [Bool.or_eq_true, decide_eq_true_eq] at h
  rcases h with (h | h) | h
  · exact .inl (.inl ⟨by omega, by omega⟩)
  · exact .inl (.inr ⟨by omega, by omega⟩)
  · exact .inr h
theorem o_mul : OpR X (binaryOp .Mult) (rD2 dMul) := (op_mul.or (op_mulW.or op_rep)).imp fun x y H Q ⟨S, a, b, d, La, Lb, hn, ra, rb, e, q⟩ => by
  cases a with
  | int i =>
    cases b with
    | int j =>
      have e : (if mulC i j = true then some (D.int (i * j)) else none) = some d := e
      obtain ⟨rfl, rfl⟩ := ra.iint
      obtain ⟨rfl, rfl⟩ := rb.iint
      by_cases h : mulC i j = true
      · rw [if_pos h] at e
        cases e
        rcases mulC_ok h with h | h
        · exact .inl ⟨i, j, rfl, rfl, h, q _ _ _ HE.refl (.int _)⟩
        · exact .inr (.inl ⟨i, j, rfl, rfl, h, q _ _ _ HE.refl (.int _)⟩)
      · rw [if_neg h] at e; cases e
    | _ => cases e
  | lst xs =>
    cases b with
    | int k =>
      have e : (if -1000 ≤ k ∧ k ≤ 1000 ∧ xs.length ≤ 1000 ∧ lfs xs = true then some (D.lst (List.replicate k.toNat xs).flatten) else none) = some d := e
      obtain ⟨a, vs, L1, rfl, ea, na, rsa, rfl⟩ := ra.ilst
      obtain ⟨rfl, rfl⟩ := rb.iint
      by_cases h : -1000 ≤ k ∧ k ≤ 1000 ∧ xs.length ≤ 1000 ∧ lfs xs = true
      · rw [if_pos h] at e
        cases e
        have hl := rsa.len
        have hL := rsa.nils h.2.2.2
        subst hL
        refine .inr (.inr ⟨_, k, _, rfl, rfl, ea, by omega, by omega, ?_, fun p np => ?_⟩)
        · have h2 : vs.length * k.toNat ≤ 1000 * 1000 := Nat.mul_le_mul (by omega) (by omega)
          exact size_ok h2
        · exact q _ _ _ (HE.fresh np) (.lst upd_same (fun z => hn _ z np) ((rsa.repl k.toNat).ext0 (HE.fresh np)))
      · rw [if_neg h] at e; cases e
    | _ => cases e
  | _ => cases e
theorem o_neg : UnR X (unaryOp .USub) (rD1 dNeg) := un_neg.imp fun x H Q ⟨S, a, d, La, hn, ra, e, q⟩ => by
  cases a <;> cases e
  obtain ⟨rfl, rfl⟩ := ra.iint
  exact ⟨_, rfl, q _ _ _ HE.refl (.int _)⟩
theorem o_eq (hu : X.A.units + 64 < cLine) : OpR X (compareOp .Eq) (rD2 dEq) := (op_eqD hu).imp fun x y H Q ⟨S, a, b, d, La, Lb, hn, ra, rb, e, q⟩ => by
  unfold dEq at e
  by_cases h : (dOk 8 a && dOk 8 b) = true
  · rw [if_pos h] at e
    cases e
    rw [Bool.and_eq_true] at h
    exact ⟨_, _, ra.dp 8 h.1, rb.dp 8 h.2, dOk_shaped h.1, dOk_shaped h.2, q _ _ _ HE.refl (.bl _)⟩
  · rw [if_neg h] at e; cases e
theorem o_ne (hu : X.A.units + 64 < cLine) : OpR X (compareOp .NotEq) (rD2 dNe) := (op_neD hu).imp fun x y H Q ⟨S, a, b, d, La, Lb, hn, ra, rb, e, q⟩ => by
  unfold dNe at e
  by_cases h : (dOk 8 a && dOk 8 b) = true
  · rw [if_pos h] at e
    cases e
    rw [Bool.and_eq_true] at h
    exact ⟨_, _, ra.dp 8 h.1, rb.dp 8 h.2, dOk_shaped h.1, dOk_shaped h.2, q _ _ _ HE.refl (.bl _)⟩
  · rw [if_neg h] at e; cases e
theorem Rp.isNon {S : Sr} {H : Hp} {v : V} {d : D} {L : List Addr} (r : Rp S H v d L) : decide (v = .non) = d.isNon := by
  cases r <;> first | rfl | (exact decide_eq_false (fun z => nomatch z))
theorem o_is : OpR X (compareOp .Is) (rD2 dIs) := (op_isN.or op_isBl).imp fun x y H Q ⟨S, a, b, d, La, Lb, hn, ra, rb, e, q⟩ => by
  cases b with
  | non =>
    obtain ⟨rfl, rfl⟩ := rb.inon
    have e : some (D.bl a.isNon) = some d := by cases a <;> exact e
    cases e
    exact .inl ⟨rfl, q _ _ _ HE.refl (by rw [ra.isNon]; exact .bl _)⟩
  | bl k =>
    cases a with
    | bl k2 =>
      cases e
      obtain ⟨rfl, rfl⟩ := ra.ibl
      obtain ⟨rfl, rfl⟩ := rb.ibl
      exact .inr ⟨_, _, rfl, rfl, q _ _ _ HE.refl (.bl _)⟩
    | _ => cases e
  | _ => cases a <;> cases e
theorem o_isN : OpR X (compareOp .IsNot) (rD2 dIsN) := (op_notN.or op_notBl).imp fun x y H Q ⟨S, a, b, d, La, Lb, hn, ra, rb, e, q⟩ => by
  cases b with
  | non =>
    obtain ⟨rfl, rfl⟩ := rb.inon
    have e : some (D.bl (!a.isNon)) = some d := by cases a <;> exact e
    cases e
    exact .inl ⟨rfl, q _ _ _ HE.refl (by rw [ra.isNon]; exact .bl _)⟩
  | bl k =>
    cases a with
    | bl k2 =>
      cases e
      obtain ⟨rfl, rfl⟩ := ra.ibl
      obtain ⟨rfl, rfl⟩ := rb.ibl
      exact .inr ⟨_, _, rfl, rfl, q _ _ _ HE.refl (.bl _)⟩
    | _ => cases e
  | _ => cases a <;> cases e
theorem o_in : OpR X (compareOp .In) (rD2 dIn) := op_in_seq.imp fun x y H Q ⟨S, a, b, d, La, Lb, hn, ra, rb, e, q⟩ => by
  unfold dIn at e
  obtain ⟨xs, e1, e2⟩ := Option.bind_eq_some_iff.mp e
  obtain ⟨p, vs, L', rfl, ho, rs⟩ := rb.items e1
  by_cases h : (flatD a && xs.all flatD) = true
  · rw [if_pos h] at e2
    cases e2
    rw [Bool.and_eq_true] at h
    refine ⟨p, vs, rfl, ho.elim (fun z => .inl (.inl z)) fun z => .inr (.inl z), ra.flat h.1, rs.flats h.2, ?_⟩
    rw [if_neg Bool.false_ne_true, rs.inD ra h.1 h.2]
    exact q _ _ _ HE.refl (.bl _)
  · rw [if_neg h] at e2; cases e2
theorem o_notIn : OpR X (compareOp .NotIn) (rD2 dNotIn) := op_notIn_seq.imp fun x y H Q ⟨S, a, b, d, La, Lb, hn, ra, rb, e, q⟩ => by
  unfold dNotIn at e
  obtain ⟨xs, e1, e2⟩ := Option.bind_eq_some_iff.mp e
  obtain ⟨p, vs, L', rfl, ho, rs⟩ := rb.items e1
  by_cases h : (flatD a && xs.all flatD) = true
  · rw [if_pos h] at e2
    cases e2
    rw [Bool.and_eq_true] at h
    refine ⟨p, vs, rfl, ho.elim (fun z => .inl (.inl z)) fun z => .inr (.inl z), ra.flat h.1, rs.flats h.2, ?_⟩
    rw [if_pos rfl, rs.inD ra h.1 h.2]
    exact q _ _ _ HE.refl (.bl _)
  · rw [if_neg h] at e2; cases e2
theorem Rps.atI {S : Sr} {H : Hp} {vs : List V} {ds : List D} {L : List Addr} (r : Rps S H vs ds L) {i : Int} {d : D} (h : atI ds i = some d) : ∃ v L', L2.atI vs i = some v ∧ Rp S H v d L' ∧ ∀ a ∈ L', a ∈ L := by
  unfold L2.atI at h
  obtain ⟨j, e1, e2⟩ := Option.bind_eq_some_iff.mp h
  obtain ⟨v, L', h1, h2, h3⟩ := r.get e2
  refine ⟨v, L', ?_, h2, h3⟩
  unfold L2.atI
  rw [r.len, e1]
  exact h1
theorem o_ix : IxR X (rD2 dIx) := (ix_list.or ix_tup).imp fun x y H Q ⟨S, a, b, d, La, Lb, hn, ra, rb, e, q⟩ => by
  cases b with
  | int i =>
    obtain ⟨rfl, rfl⟩ := rb.iint
    obtain ⟨xs, e1, e2⟩ := Option.bind_eq_some_iff.mp (show (a.items.bind fun xs => atI xs i) = some d from e)
    obtain ⟨p, vs, L', rfl, ho, rs⟩ := ra.items e1
    obtain ⟨v, L2', h1, h2, _⟩ := rs.atI e2
    rcases ho with ho | ho
    · exact .inl ⟨p, vs, i, v, rfl, rfl, .inl ho, h1, q _ _ _ HE.refl h2⟩
    · exact .inr ⟨p, vs, i, v, rfl, rfl, .inl ho, h1, q _ _ _ HE.refl h2⟩
  | _ => cases e

/-! ### slices -/
abbrev FO := Ev → M (Option Int)
def tO (f : FO) : TO := fun σ H Q => ∃ S δ st d st', Rs S H σ δ ∧ SrcOk S H st ∧ f δ st = some (d, st') ∧ ∀ H', Ext S H H' → SrcOk S H' st' → Q d H'
abbrev DO (X : Cx) (e : Option Expr) (f : FO) : Prop := PO X e (tO f)
theorem _root_.L2.PO.imp {X : Cx} {e : Option Expr} {t t' : TO} (p : PO X e t) (h : ∀ σ H Q, t' σ H Q → t σ H Q) : PO X e t' := ⟨fun pins s σ H Q I w => p.run pins s σ H Q I (h σ H Q w)⟩
def fNo : FO := fun _ => M.ret none
def fSo (f : FE) : FO := fun δ => (f δ).bd fun d => M.of (match d with | .int i => some (some i) | _ => none)
theorem do_none : DO X none fNo := po_none.imp fun σ H Q ⟨S, δ, st, d, st', rs, so, e, q⟩ => by
  obtain ⟨e1, e2⟩ := ret_inv e
  subst e1 e2
  exact q H HE.refl so
theorem do_some {e : Expr} {f : FE} (h : DE X e f) : DO X (some e) (fSo f) := (po_some h).imp fun σ H Q ⟨S, δ, st, d, st', rs, so, e, q⟩ => by
  obtain ⟨x, s1, ea, e⟩ := bd_inv e
  obtain ⟨eo, es⟩ := of_inv e
  subst es
  refine ⟨S, δ, st, x, _, rs, so, ea, fun v H1 L1 x1 so1 r1 => ?_⟩
  cases x with
  | int i =>
    cases eo
    obtain ⟨rfl, rfl⟩ := r1.iint
    exact ⟨i, rfl, q H1 x1 so1⟩
  | _ => cases eo
def cutD (xs : List D) (lo hi : Option Int) : List D := (xs.drop (HT.sIx xs.length 0 lo)).take (HT.sIx xs.length xs.length hi - HT.sIx xs.length 0 lo)
def dSl (a : D) (lo hi : Option Int) : Option D := match a with
  | .tup xs => some (.tup (cutD xs lo hi))
  | .lst xs => some (.lst (cutD xs lo hi))
  | _ => none
theorem Rps.cut {S : Sr} {H : Hp} {vs : List V} {ds : List D} {L : List Addr} (r : Rps S H vs ds L) (lo hi : Option Int) : ∃ L', Rps S H (cutV vs lo hi) (cutD ds lo hi) L' := by
  unfold cutV cutD
  rw [r.len]
  refine Rps.mk (by simp [r.len]) fun i d v h1 h2 => ?_
  rw [List.getElem?_take] at h1 h2
  by_cases hi' : i < HT.sIx ds.length ds.length hi - HT.sIx ds.length 0 lo
  · rw [if_pos hi', List.getElem?_drop] at h1 h2
    obtain ⟨w, L', e1, e2, _⟩ := r.get h1
    rw [h2] at e1
    cases e1
    exact ⟨L', e2⟩
  · rw [if_neg hi'] at h1; cases h1
def rSlD : V → Option Int → Option Int → Hp → VK → Prop := fun x lo hi H Q => ∃ S a d La, S.tr H ∧ Rp S H x a La ∧ dSl a lo hi = some d ∧ ∀ v H' L, HE0 H H' → Rp S H' v d L → Q v H'
theorem _root_.L2.SlR.imp {r r' : V → Option Int → Option Int → Hp → VK → Prop} (p : SlR X r) (h : ∀ x lo hi H Q, r' x lo hi H Q → r x lo hi H Q) : SlR X r' := by
  intro pins s σ H x v vl vu lo hi sl Q I rx hs pl pu w
  exact p pins s σ H x v vl vu lo hi sl Q I rx hs pl pu (h _ _ _ _ _ w)
theorem sl_D : SlR X rSlD := (sl_list.or sl_tupA).imp fun x lo hi H Q ⟨S, a, d, La, hn, ra, e, q⟩ => by
  cases a with
  | tup xs =>
    cases e
    obtain ⟨a, vs, rfl, ea, rs⟩ := ra.itup
    obtain ⟨L', rc⟩ := rs.cut lo hi
    refine .inr ⟨a, vs, rfl, SqT.of ea, fun hw => ?_, fun _ p np => ?_⟩
    · have e2 : cutD xs lo hi = xs := by
        unfold cutD
        rw [← rs.len, hw.1, hw.2, List.drop_zero, Nat.sub_zero]
        exact List.take_of_length_le (by rw [rs.len]; exact Nat.le_refl _)
      rw [e2] at q
      exact q _ _ _ HE.refl (.tup ea rs)
    · exact q _ _ _ (HE.fresh np) (.tup upd_same (rc.ext0 (HE.fresh np)))
  | lst xs =>
    cases e
    obtain ⟨a, vs, L1, rfl, ea, na, rs, rfl⟩ := ra.ilst
    obtain ⟨L', rc⟩ := rs.cut lo hi
    exact .inl ⟨a, vs, rfl, SqL.of ea, fun p np => q _ _ _ (HE.fresh np) (.lst upd_same (fun z => hn _ z np) (rc.ext0 (HE.fresh np)))⟩
  | _ => cases e
def eSl (f : FE) (lo hi : FO) : FE := fun δ => (f δ).bd fun a => (lo δ).bd fun l => (hi δ).bd fun u => M.of (dSl a l u)
theorem d_sl {e : Expr} {f : FE} {lo hi : Option Expr} {l u : FO} {p2 pos : Pos} (he : DE X e f) (hl : DO X lo l) (hu : DO X hi u) : DE X (.Subscript e (.Slice lo hi none p2) pos) (eSl f l u) := (pe_slice sl_D he hl hu).imp fun σ H Q ⟨S, δ, st, d, st', rs, so, e, q⟩ => by
  obtain ⟨x, s1, ea, e⟩ := bd_inv e
  obtain ⟨y, s2, eb, e⟩ := bd_inv e
  obtain ⟨z, s3, ec, e⟩ := bd_inv e
  obtain ⟨eo, es⟩ := of_inv e
  subst es
  exact ⟨S, δ, st, x, s1, rs, so, ea, fun v H1 L1 x1 so1 r1 => ⟨S, δ, s1, y, s2, rs.extS x1, so1, eb, fun H2 x2 so2 => ⟨S, δ, s2, z, _, rs.extS (x1.trans x2), so2, ec, fun H3 x3 so3 =>
    ⟨S, x, d, L1, so3.tr, r1.extS (x2.trans x3), eo, fun w H4 L4 x4 r4 => q w H4 L4 (x1.trans (x2.trans (x3.trans x4.up0))) (so3.ext0 x4) r4⟩⟩⟩⟩

/-! ### calls of built-ins -/
def eCall (o : List D → Option D) (fs : Ev → M (List D)) : FE := fun δ => (fs δ).bd fun ds => M.of (o ds)
theorem tcb_imp {o : List D → Option D} {fs : Ev → M (List D)} : ∀ σ H Q, tD (eCall o fs) σ H Q → tCB (rDs o) (tAs fs) σ H Q := fun σ H Q ⟨S, δ, st, d, st', rs, so, e, q⟩ => by
  obtain ⟨x, s1, ea, e⟩ := bd_inv e
  obtain ⟨eo, es⟩ := of_inv e
  subst es
  exact ⟨S, δ, st, x, _, rs, so, ea, fun vs H1 L1 x1 so1 r1 => ⟨S, x, d, L1, so1.tr, r1, eo, fun z H3 L3 x3 r3 => q z H3 L3 (x1.trans x3.up0) (so1.ext0 x3) r3⟩⟩
theorem d_bi {id : String} {x : Str} {p pos : Pos} {e : Expr} {es : List Expr} {o : List D → Option D} {fs : Ev → M (List D)} (hc : CallR X (.builtin id) (rDs o)) (hg : Gl X x) (hm : X.mg x = none) (hv : bootBuiltins x = some (.builtin id)) (ha : DA X (e :: es) fs)
    (hn : x ≠ "__name__" := by decide) (hdb : (x == ("__debug__" : Str)) = false := by decide) (he : starEach (e :: es) X.env = (false, eval e X.env) :: starEach es X.env := by rfl) (hpl : (backTo pos (starEach es X.env)).any (·.1) = false := by rfl) :
    DE X (.Call (.Name x p) (e :: es) [] pos) (eCall o fs) := (pe_callB hc hg hm hv ha hn hdb he hpl).imp tcb_imp
theorem d_ty {T : String} {x : Str} {p pos : Pos} {e : Expr} {es : List Expr} {o : List D → Option D} {fs : Ev → M (List D)} (hc : CallR X (.type T) (rDs o)) (hg : Gl X x) (hm : X.mg x = none) (hv : bootBuiltins x = some (.type T)) (ha : DA X (e :: es) fs)
    (hn : x ≠ "__name__" := by decide) (hdb : (x == ("__debug__" : Str)) = false := by decide) (he : starEach (e :: es) X.env = (false, eval e X.env) :: starEach es X.env := by rfl) (hpl : (backTo pos (starEach es X.env)).any (·.1) = false := by rfl) :
    DE X (.Call (.Name x p) (e :: es) [] pos) (eCall o fs) := (pe_callTy hc hg hm hv ha hn hdb he hpl).imp tcb_imp
theorem Rps.i1 {S : Sr} {H : Hp} {vs : List V} {d : D} {L : List Addr} (r : Rps S H vs [d] L) : ∃ v, vs = [v] ∧ Rp S H v d L := by
  cases r with
  | cons r rs => cases rs; exact ⟨_, rfl, by simpa using r⟩
theorem Rps.i2 {S : Sr} {H : Hp} {vs : List V} {d e : D} {L : List Addr} (r : Rps S H vs [d, e] L) : ∃ v u L1 L2, vs = [v, u] ∧ Rp S H v d L1 ∧ Rp S H u e L2 := by
  cases r with
  | cons r rs =>
    obtain ⟨u, rfl, r2⟩ := rs.i1
    exact ⟨_, _, _, _, rfl, r, r2⟩
theorem Rps.i3 {S : Sr} {H : Hp} {vs : List V} {d e f : D} {L : List Addr} (r : Rps S H vs [d, e, f] L) : ∃ v u w L1 L2 L3, vs = [v, u, w] ∧ Rp S H v d L1 ∧ Rp S H u e L2 ∧ Rp S H w f L3 := by
  cases r with
  | cons r rs =>
    obtain ⟨u, w, L1, L2, rfl, r2, r3⟩ := rs.i2
    exact ⟨_, _, _, _, _, _, rfl, r, r2, r3⟩
def bLen : List D → Option D
  | [d] => d.items.map fun xs => .int xs.length
  | _ => none
theorem b_len : CallR X (.builtin "len") (rDs bLen) := call_len_seq.imp fun x H Q ⟨S, ds, d, La, hn, rs, e, q⟩ => by
  match ds, e with
  | [a], e =>
    obtain ⟨v, rfl, r⟩ := rs.i1
    obtain ⟨xs, e1, e2⟩ := Option.map_eq_some_iff.mp (show (a.items.map fun xs => D.int xs.length) = some d from e)
    obtain ⟨p, vs, L', rfl, ho, rs'⟩ := r.items e1
    subst e2
    refine ⟨p, vs, rfl, ho.elim (fun z => .inl (.inl z)) fun z => .inr (.inl z), ?_⟩
    rw [rs'.len]
    exact q _ _ _ HE.refl (.int _)
def bAbs : List D → Option D
  | [.int i] => some (.int (if i < 0 then -i else i))
  | _ => none
theorem b_abs : CallR X (.builtin "abs") (rDs bAbs) := call_abs.imp fun x H Q ⟨S, ds, d, La, hn, rs, e, q⟩ => by
  match ds, e with
  | [.int i], e =>
    cases e
    obtain ⟨v, rfl, r⟩ := rs.i1
    obtain ⟨rfl, rfl⟩ := r.iint
    exact ⟨i, rfl, q _ _ _ HE.refl (.int _)⟩
def bInt : List D → Option D
  | [.int i] => some (.int i)
  | _ => none
theorem b_int : CallR X (.type "int") (rDs bInt) := call_int1.imp fun x H Q ⟨S, ds, d, La, hn, rs, e, q⟩ => by
  match ds, e with
  | [.int i], e =>
    cases e
    obtain ⟨v, rfl, r⟩ := rs.i1
    obtain ⟨rfl, rfl⟩ := r.iint
    exact .inl ⟨i, rfl, q _ _ _ HE.refl (.int _)⟩
def bMax2 : List D → Option D
  | [.int i, .int j] => some (.int (if j > i then j else i))
  | _ => none
theorem b_max2 (hc : X.calm = true) : CallR X (.builtin "max") (rDs bMax2) := (call_max2 hc).imp fun x H Q ⟨S, ds, d, La, hn, rs, e, q⟩ => by
  match ds, e with
  | [.int i, .int j], e =>
    cases e
    obtain ⟨v, u, _, _, rfl, r, r'⟩ := rs.i2
    obtain ⟨rfl, rfl⟩ := r.iint
    obtain ⟨rfl, rfl⟩ := r'.iint
    exact ⟨i, j, rfl, q _ _ _ HE.refl (.int _)⟩
def bMin2 : List D → Option D
  | [.int i, .int j] => some (.int (if j < i then j else i))
  | _ => none
theorem b_min2 (hc : X.calm = true) : CallR X (.builtin "min") (rDs bMin2) := (call_min2 hc).imp fun x H Q ⟨S, ds, d, La, hn, rs, e, q⟩ => by
  match ds, e with
  | [.int i, .int j], e =>
    cases e
    obtain ⟨v, u, _, _, rfl, r, r'⟩ := rs.i2
    obtain ⟨rfl, rfl⟩ := r.iint
    obtain ⟨rfl, rfl⟩ := r'.iint
    exact ⟨i, j, rfl, q _ _ _ HE.refl (.int _)⟩
/-- boolL, intL of a list -/
def boolL : List D → Option (List Bool)
  | [] => some []
  | .bl b :: ds => (boolL ds).map (b :: ·)
  | _ => none
def intL : List D → Option (List Int)
  | [] => some []
  | .int b :: ds => (intL ds).map (b :: ·)
  | _ => none
theorem Rps.boolL {S : Sr} {H : Hp} {vs : List V} {ds : List D} {L : List Addr} {bs : List Bool} (r : Rps S H vs ds L) (h : boolL ds = some bs) : vs = bs.map V.bl := by
  induction ds generalizing vs L bs with
  | nil => cases r; cases h; rfl
  | cons d ds ih =>
    cases r with
    | cons r rs =>
      cases d with
      | bl b =>
        obtain ⟨cs, e1, e2⟩ := Option.map_eq_some_iff.mp (show (DL.boolL ds).map (b :: ·) = some bs from h)
        subst e2
        rw [ih rs e1, r.ibl.1]; rfl
      | _ => cases h
theorem Rps.intL {S : Sr} {H : Hp} {vs : List V} {ds : List D} {L : List Addr} {bs : List Int} (r : Rps S H vs ds L) (h : intL ds = some bs) : vs = bs.map V.int := by
  induction ds generalizing vs L bs with
  | nil => cases r; cases h; rfl
  | cons d ds ih =>
    cases r with
    | cons r rs =>
      cases d with
      | int b =>
        obtain ⟨cs, e1, e2⟩ := Option.map_eq_some_iff.mp (show (DL.intL ds).map (b :: ·) = some bs from h)
        subst e2
        rw [ih rs e1, r.iint.1]; rfl
      | _ => cases h
def bAny : List D → Option D
  | [.lst ds] => (boolL ds).map fun bs => .bl (bs.any id)
  | _ => none
def bAll : List D → Option D
  | [.lst ds] => (boolL ds).map fun bs => .bl (bs.all id)
  | _ => none
def bSum : List D → Option D
  | [.lst ds] => (intL ds).map fun bs => .int bs.sum
  | _ => none
theorem b_any (hc : X.calm = true) : CallR X (.builtin "any") (rDs bAny) := (cr_any hc).imp fun x H Q ⟨S, ds, d, La, hn, rs, e, q⟩ => by
  match ds, e with
  | [.lst xs], e =>
    obtain ⟨v, rfl, r⟩ := rs.i1
    obtain ⟨bs, e1, e2⟩ := Option.map_eq_some_iff.mp (show (boolL xs).map (fun bs => D.bl (bs.any id)) = some d from e)
    subst e2
    obtain ⟨a, vs, L1, rfl, ea, na, rs', rfl⟩ := r.ilst
    rw [rs'.boolL e1] at ea
    exact ⟨a, bs, rfl, SqL.of ea, q _ _ _ HE.refl (.bl _)⟩
theorem b_all (hc : X.calm = true) : CallR X (.builtin "all") (rDs bAll) := (cr_all hc).imp fun x H Q ⟨S, ds, d, La, hn, rs, e, q⟩ => by
  match ds, e with
  | [.lst xs], e =>
    obtain ⟨v, rfl, r⟩ := rs.i1
    obtain ⟨bs, e1, e2⟩ := Option.map_eq_some_iff.mp (show (boolL xs).map (fun bs => D.bl (bs.all id)) = some d from e)
    subst e2
    obtain ⟨a, vs, L1, rfl, ea, na, rs', rfl⟩ := r.ilst
    rw [rs'.boolL e1] at ea
    exact ⟨a, bs, rfl, SqL.of ea, q _ _ _ HE.refl (.bl _)⟩
theorem b_sum (hc : X.calm = true) : CallR X (.builtin "sum") (rDs bSum) := (cr_sum hc).imp fun x H Q ⟨S, ds, d, La, hn, rs, e, q⟩ => by
  match ds, e with
  | [.lst xs], e =>
    obtain ⟨v, rfl, r⟩ := rs.i1
    obtain ⟨bs, e1, e2⟩ := Option.map_eq_some_iff.mp (show (intL xs).map (fun bs => D.int bs.sum) = some d from e)
    subst e2
    obtain ⟨a, vs, L1, rfl, ea, na, rs', rfl⟩ := r.ilst
    rw [rs'.intL e1] at ea
    exact ⟨a, bs, rfl, SqL.of ea, q _ _ _ HE.refl (.int _)⟩
def bTup : List D → Option D
  | [.lst ds] => some (.tup ds)
  | [.tup ds] => some (.tup ds)
  | _ => none
theorem b_tup : CallR X (.type "tuple") (rDs bTup) := call_tuple_of.imp fun x H Q ⟨S, ds, d, La, hn, rs, e, q⟩ => by
  match ds, e with
  | [.lst xs], e =>
    cases e
    obtain ⟨v, rfl, r⟩ := rs.i1
    obtain ⟨a, vs, L1, rfl, ea, na, rs', rfl⟩ := r.ilst
    exact ⟨a, vs, rfl, .inl ⟨SqL.of ea, fun p np => q _ _ _ (HE.fresh np) (.tup upd_same (rs'.ext0 (HE.fresh np)))⟩⟩
  | [.tup xs], e =>
    cases e
    obtain ⟨v, rfl, r⟩ := rs.i1
    obtain ⟨a, vs, rfl, ea, rs'⟩ := r.itup
    exact ⟨a, vs, rfl, .inr ⟨SqT.of ea, q _ _ _ HE.refl (.tup ea rs')⟩⟩
def bList : List D → Option D
  | [d] => d.items.map .lst
  | _ => none
theorem b_list : CallR X (.type "list") (rDs bList) := call_list_of.imp fun x H Q ⟨S, ds, d, La, hn, rs, e, q⟩ => by
  match ds, e with
  | [a], e =>
    obtain ⟨v, rfl, r⟩ := rs.i1
    obtain ⟨xs, e1, e2⟩ := Option.map_eq_some_iff.mp (show (a.items.map D.lst) = some d from e)
    obtain ⟨p, vs, L', rfl, ho, rs'⟩ := r.items e1
    subst e2
    exact ⟨p, vs, rfl, ho.elim (fun z => .inl (.inl z)) fun z => .inr (.inl z), fun l nl => q _ _ _ (HE.fresh nl) (.lst upd_same (fun z => hn _ z nl) (rs'.ext0 (HE.fresh nl)))⟩
end
end DL
set_option Elab.async false
set_option linter.all false
set_option maxRecDepth 100000
set_option maxHeartbeats 4000000
/-! DEnum: enumerate over a tuple, as what a loop walks. -/
namespace DL
open PySem PySem.Spec PyProof.Rows L2

theorem enum1_meets {v : Value} {o : Obj} {T : Heap → Prop} (B : Begins v o T) : Meets (Builtin.«enumerate.__new__» ⟨[.type "enumerate", v], []⟩) (fun _ R s => T s.heap ∧
    R (.ok (.ret (.ref (s.heap.push o).objs.size))) { s with heap := (s.heap.push o).push { cls := .type "enumerate", data := .fields #[.none, .bool false, .ref s.heap.objs.size, rawInt 0, .none, .none] } }) := by
  refine Meets.of_wp fun prog w A R s h => ?_
  obtain ⟨hp, g, d, tk, os⟩ := s
  have hsubt := sub_enumerate
  have it1 : ∀ {A' : Around} {E : Value → Shared → Prop} {Q : Value → Shared → Prop}, Q (.ref hp.objs.size) ⟨hp.push o, g, d, tk, os⟩ → wpAny (model prog w) A' (pyIter v) Q E ⟨hp, g, d, tk, os⟩ := fun q => B.iter _ _ _ _ ⟨hp, g, d, tk, os⟩ _ h.1 q
  replace h := h.2
  wp_walk using it1
  refine wpAny_stack_any fun st => (wpAny_pure ?_)
  split
  · rename_i c _ _ _ _ _
    cases (c == Value.type "enumerate") <;> (wp_walk using it1; exact ⟨_, rfl, h⟩)
  · (wp_walk using it1; exact ⟨_, rfl, h⟩)

theorem enum1_call {prog : Program} {w : World} {A : Around} {E : Value → Shared → Prop} {s : Shared} {v : Value} {o : Obj} {T : Heap → Prop} {Q : Value → Shared → Prop} (B : Begins v o T) (h1 : T s.heap)
    (h : ∀ h', IsEnum h' (s.heap.objs.size + 1) s.heap.objs.size 0 .none → h'.get? s.heap.objs.size = some o → (∀ b u, s.heap.get? b = some u → h'.get? b = some u) → Q (.ref (s.heap.objs.size + 1)) { s with heap := h' }) :
    wpAny (model prog w) A (call (.type "enumerate") [v]) Q E s := by
  refine callType_new F.called_enumerate (by decide) (F.typeCall_enumerate_1 _) (F.newCall_enumerate_1 _) (fun obj => F.args_object_init_2 obj _) F.entry_enumerate_new (enum1_meets B) ⟨h1, ?_⟩
  have hz : (s.heap.push o).objs.size = s.heap.objs.size + 1 := Heap.size_push ..
  show _ ∧ _
  rw [hz]
  have he : IsEnum ((s.heap.push o).push { cls := .type "enumerate", data := .fields #[.none, .bool false, .ref s.heap.objs.size, rawInt 0, .none, .none] }) (s.heap.objs.size + 1) s.heap.objs.size 0 .none := by
    have z := Heap.get?_push_size (s.heap.push o) (o := { cls := .type "enumerate", data := .fields #[.none, .bool false, .ref s.heap.objs.size, rawInt 0, .none, .none] }) rfl
    rwa [hz] at z
  exact ⟨⟨_, he, rfl⟩, h _ he (Heap.get?_push_of_some _ (Heap.get?_push_size _ B.free)) fun b u x => Heap.get?_push_of_some _ (Heap.get?_push_of_some _ x)⟩

/-- the tuple at a, each item in a new pair -/
def IteT (K : PySem.W.Frag) (a : Addr) : It :=
  ⟨fun i H => ∃ (xs : List V) (x : V), SqT K H a xs ∧ xs[i]? = some x, fun i H v H' => ∃ T x, v = .ref T ∧ H T = none ∧ H' = upd H T (.tup [.int (i : Nat), x]) ∧ ∀ xs, SqT K H a xs → xs[i]? = some x, fun i H => ∃ xs : List V, SqT K H a xs ∧ xs.length ≤ i⟩
theorem turn_enumT {P : Program} {w : World} {K : PySem.W.Frag} {elts : List Expr} {kk : Nat} {tpos : Pos} (a e it : Addr) :
    Turn P w K (.Tuple elts kk tpos) (IteT K a) [e, it] e (fun i h => (∃ old, IsEnum h e it ((i : Nat) : Int) old) ∧ h.IsTupleIter it a i ∧ e ≠ it ∧ a ≠ it ∧ a ≠ e) where
  mem := List.mem_cons_self
  obj := fun i h st b hb => by
    obtain ⟨⟨old, he⟩, ⟨o, ho, hc, hd⟩, _⟩ := st
    rcases (show b = e ∨ b = it by simpa using hb) with z | z
    · exact ⟨_, z ▸ he, fun v q => by cases q⟩
    · exact ⟨o, z ▸ ho, fun v q => by rw [hd] at q; cases q⟩
  keep := fun i h h' st k => ⟨⟨st.1.choose, k e (by simp) _ st.1.choose_spec⟩, st.2.1.at fun o q => k it (by simp) o q, st.2.2⟩
  item := by
    intro X hP hw hK hc i pins s σ H E I hf st hg
    subst hP hw hK
    obtain ⟨⟨old, he⟩, hit, hne, hai, hae⟩ := st
    obtain ⟨xs, x, hq, hx⟩ := hg
    obtain ⟨its, rv, p, hz⟩ := I.tuple hq
    obtain ⟨u, hu, ru⟩ := rv.get hx
    have hel : e < s.heap.objs.size := Heap.lt_size he
    have hil : it < s.heap.objs.size := by obtain ⟨_, q, _⟩ := hit; exact Heap.lt_size q
    have hlt : i < its.toArray.size := by
      rw [List.size_toArray, ← rv.length]
      exact (List.getElem?_eq_some_iff.mp hx).1
    refine wpAny_pyNext_enum_itemD (Draws.tuple (A := X.A.in1) (I.ok.hd hc) it a hai its.toArray) he ⟨hit, p⟩ hlt hne (by simp [hne, Ne.symm hae]) fun y h' tk hy ho hst hT hsz hk => ?_
    have ey : y = u := by
      have : some y = some u := by rw [← hy]; simpa using hu
      exact Option.some.inj this
    subst ey
    refine ⟨_, rfl, wpAny_letOwnedTupleGo_enum (s := { s with heap := h', toks := tk + 1 }) ho fun h'' he' sb => ?_⟩
    have hT2 : h''.get? s.heap.objs.size = some { cls := .type "tuple", data := .seq #[.int i tk, y] } := (sb.2 _ (Nat.ne_of_gt hel)).trans hT
    have new : ObjOk X.prog X.w (upd H s.heap.objs.size (.tup [.int (i : Nat), x])) h'' s.heap.objs.size (.tup [.int (i : Nat), x]) := ⟨size_ok (by show 2 ≤ 1000000; decide), [.int i tk, y], .cons ⟨_, rfl⟩ (.cons ru .nil), ⟨_, hT2, rfl, _, rfl⟩⟩
    have I1 : Inv X pins σ (upd H s.heap.objs.size (.tup [.int (i : Nat), x])) { s with heap := h'', toks := tk + 1 } :=
      I.turnedNew (t' := tk + 1) (ch := [e, it]) (fun b ob hb q => (sb.2 b (fun z => hb (by simp [z]))).trans (hk b ob (fun z => hb (by simp [z])) (fun z => hb (by simp [z])) q)) hf (Nat.le_refl _) new
    refine ⟨.ref s.heap.objs.size, _, I1, rfl, ⟨_, x, rfl, I.hok.fresh (Nat.le_refl _), rfl, fun ys hy => by rw [I.tuple_inj hy hq]; exact hx⟩, ⟨⟨y, ?_⟩, hst.1.at fun o q => (sb.2 it (Ne.symm hne)).trans q, hne, hai, hae⟩, fun b hb => ?_⟩
    · rw [show ((i + 1 : Nat) : Int) = (i : Int) + 1 by omega]; exact he'
    · have hb' : b < s.heap.objs.size := by
        rcases (show b = e ∨ b = it by simpa using hb) with z | z
        · exact z ▸ hel
        · exact z ▸ hil
      rw [upd_ne (Nat.ne_of_lt hb')]
      exact (hf b hb).1
  done := by
    intro X hP hw hK hc i pins s σ H E I hf st hg
    subst hP hw hK
    obtain ⟨⟨old, he⟩, hit, hne, hai, hae⟩ := st
    obtain ⟨xs, hq, hx⟩ := hg
    obtain ⟨its, rv, p, hz⟩ := I.tuple hq
    obtain ⟨f0, f1, f2, f3, f4, f5⟩ := hf it (by simp)
    have hl := rv.length
    have fin : ∀ h' : Heap, Heap.ExtBut it s.heap h' → Inv X pins σ H { s with heap := h' } := fun h' eb => I.turned (t' := s.toks) (fun b o hb q => eb b o hb q) f0 f1 f3 f4 f5
    have hT : s.TypeIs (.ref e) "enumerate" := ⟨_, he, rfl⟩
    unfold pyNext
    refine wpAny_bind (wpAny_attempt (wpAny_callSpecial?_slot (name := Str.ofString "__next__") hT F.slot_enumerate_next (wpAny_call_entry F.slot_enumerate_next hT F.entry_enumerate_next ?_ (F.args_enumerate_next_1 _))))
    show wpAny _ _ (PySem.field (.ref e) 2 >>= _) _ _ _
    refine wpAny_bind (wpAny_field he rfl (x := .ref it) rfl ?_)
    refine wpAny_bind (wpAny_nextOf_tuple_end (I.ok.hd hc) hit (show s.heap.IsTuple a its.toArray from p) (by simp; omega) fun h' x eb ⟨o, ho, hcl⟩ => ?_)
    refine wpAny_bind (wpAny_isInstance (T := "StopIteration") (b := true) ⟨o, ho, hcl⟩ isSubtype_stop (wpAny_pure ?_))
    exact ⟨rfl, fin h' eb⟩
  self := fun A i s Q E st h => wpAny_pyIter_enum st.1.choose_spec h
def iEnumT (K : PySem.W.Frag) (ta : TA) : TI := fun σ H R => ta σ H fun vs H1 => ∃ a xs, vs = [.ref a] ∧ SqT K H1 a xs ∧ R (IteT K a) H1
theorem pi_enumT {X : Cx} {e : Expr} {ta : TA} {p pos tpos : Pos} {elts : List Expr} {kk : Nat} (hg : Gl X "enumerate") (hm : X.mg "enumerate" = none) (ha : PA X [e] ta) (hs : starEach [e] X.env = [(false, eval e X.env)] := by rfl) :
    PI X (.Tuple elts kk tpos) (.Call (.Name "enumerate" p) [e] [] pos) (iEnumT X.K ta) := by
  refine ⟨fun pins s σ H R I h => (Call_ (ld_blt I hg hm boot_enumerate (PyProof.Rows.callWith_type1 (thn (ha.run pos pins s σ H _ I h) fun us s1 ⟨vs, H1, I1, r1, q1⟩ => ?_) hs rfl)))⟩
  obtain ⟨a, xs, ex, hq, q⟩ := q1
  subst ex
  cases r1 with
  | cons r rr =>
    cases rr
    cases r
    obtain ⟨its, rv, p', hz⟩ := I1.tuple hq
    have hal : a < s1.heap.objs.size := by obtain ⟨_, z, _⟩ := p'; exact Heap.lt_size z
    refine enum1_call (begins_tuple a its.toArray) (show s1.heap.IsTuple a its.toArray from p') fun h' he hit hk => (wpAny_pyIter_enum he ?_)
    refine ⟨s1.heap.objs.size + 1, [s1.heap.objs.size + 1, s1.heap.objs.size], _, _, H1, rfl, I1.kept (t' := s1.toks) hk, turn_enumT a (s1.heap.objs.size + 1) s1.heap.objs.size,
      ⟨⟨.none, he⟩, ⟨_, hit, rfl, rfl⟩, Nat.succ_ne_self _, Nat.ne_of_lt hal, Nat.ne_of_lt (Nat.lt_succ_of_lt hal)⟩, fun b hb => ?_, q⟩
    have hle : s1.heap.objs.size ≤ b := by
      rcases (show b = s1.heap.objs.size + 1 ∨ b = s1.heap.objs.size by simpa using hb) with z | z
      · exact z ▸ Nat.le_succ _
      · exact z ▸ Nat.le_refl _
    exact I1.fpOk hle (I1.hok.fresh hle)
end DL
set_option Elab.async false
set_option linter.all false
set_option maxRecDepth 100000
set_option maxHeartbeats 4000000
/-! DL3: what is walked, as lists of data; list comprehensions; calls of own defs; isinstance. -/
namespace DL
open PySem PySem.Spec PyProof.Rows L2 RZ

def Sr.hide (S : Sr) (p : Addr) : Sr := { S with hid := fun b => S.hid b ∨ b = p, hA := .inl S.hA, hQ := .inl S.hQ }
section
variable {S : Sr} {H : Hp} {p : Addr}
mutual
theorem Rp.hide {v : V} {d : D} {L : List Addr} (r : Rp S H v d L) (h : ∀ a ∈ L, a ≠ p) : Rp (S.hide p) H v d L := by
  cases r with
  | non => exact .non
  | bl b => exact .bl b
  | int i => exact .int i
  | str x => exact .str x
  | src => exact .src (S := S.hide p)
  | dct e => exact .dct e
  | tup e rs => exact .tup e (rs.hide h)
  | tupk e hd rs => exact .tupk e hd (rs.hide h)
  | lst e n rs => exact .lst e (fun z => z.elim n (h _ List.mem_cons_self)) (rs.hide fun a ha => h a (List.mem_cons_of_mem _ ha))
theorem Rps.hide {vs : List V} {ds : List D} {L : List Addr} (r : Rps S H vs ds L) (h : ∀ a ∈ L, a ≠ p) : Rps (S.hide p) H vs ds L := by
  cases r with
  | nil => exact .nil
  | cons r rs => exact .cons (r.hide fun a ha => h a (List.mem_append_left _ ha)) (rs.hide fun a ha => h a (List.mem_append_right _ ha))
end
mutual
theorem Rp.show' {v : V} {d : D} {L : List Addr} (r : Rp (S.hide p) H v d L) : Rp S H v d L := by
  cases r with
  | non => exact .non
  | bl b => exact .bl b
  | int i => exact .int i
  | str x => exact .str x
  | src => exact .src
  | dct e => exact .dct e
  | tup e rs => exact .tup e rs.show'
  | tupk e hd rs => exact .tupk e hd rs.show'
  | lst e n rs => exact .lst e (fun z => n (.inl z)) rs.show'
theorem Rps.show' {vs : List V} {ds : List D} {L : List Addr} (r : Rps (S.hide p) H vs ds L) : Rps S H vs ds L := by
  cases r with
  | nil => exact .nil
  | cons r rs => exact .cons r.show' rs.show'
end
theorem SrcOk.hide {st : Src} (h : SrcOk S H st) (hp : H p ≠ none) : SrcOk (S.hide p) H st := ⟨h.ne, h.at_, h.cp, fun b hb => hb.elim (h.tr b) fun z => z ▸ hp⟩
theorem SrcOk.show' {st : Src} (h : SrcOk (S.hide p) H st) : SrcOk S H st := ⟨h.ne, h.at_, h.cp, fun b hb => h.tr b (.inl hb)⟩
theorem Rs.hide {σ : L2.St} {δ : Ev} (r : Rs S H σ δ) (h : ∀ xs, H p ≠ some (.lst xs)) : Rs (S.hide p) H σ δ := ⟨r.len, fun i d e => by
  obtain ⟨v, L, h1, h2⟩ := r.at_ i d e
  exact ⟨v, L, h1, h2.hide fun a ha z => by
    obtain ⟨_, xs, q⟩ := h2.ne a ha
    exact h xs (z ▸ q)⟩⟩
end

/-- J yields the data ds; La: the lists that it leans on -/
structure Wk (S : Sr) (J : It) (H1 : Hp) (ds : List D) (La : List Addr) : Prop where
  la : ∀ a ∈ La, ¬ S.hid a ∧ ∃ xs, H1 a = some (.lst xs)
  go : ∀ i H, HE (fun b => b ∉ La) H1 H → i < ds.length → J.go i H
  yld : ∀ i H x H', HE (fun b => b ∉ La) H1 H → S.tr H → i < ds.length → J.yld i H x H' → ∃ d L, ds[i]? = some d ∧ HE0 H H' ∧ Rp S H' x d L ∧ ∀ a ∈ L, a ∈ La
  stop : ∀ i H, HE (fun b => b ∉ La) H1 H → ds.length ≤ i → J.stop i H
abbrev FI := Ev → M (List D)
def tI (h : FI) : TI := fun σ H R => ∃ S δ st ds st', Rs S H σ δ ∧ SrcOk S H st ∧ h δ st = some (ds, st') ∧ ∀ J H1 La, Ext S H H1 → SrcOk S H1 st' → Wk S J H1 ds La → R J H1
/-- .. whose lists are new -/
def tIF (h : FI) : TI := fun σ H R => ∃ S δ st ds st', Rs S H σ δ ∧ SrcOk S H st ∧ h δ st = some (ds, st') ∧ ∀ J H1 La, Ext S H H1 → SrcOk S H1 st' → Wk S J H1 ds La → (∀ a ∈ La, H a = none) → R J H1
abbrev DI (X : Cx) (tg e : Expr) (h : FI) : Prop := PI X tg e (tI h)
abbrev DIF (X : Cx) (tg e : Expr) (h : FI) : Prop := PI X tg e (tIF h)
theorem dif {X : Cx} {tg e : Expr} {h : FI} (p : DIF X tg e h) : DI X tg e h := p.imp fun σ H R ⟨S, δ, st, ds, st', rs, so, e, q⟩ => ⟨S, δ, st, ds, st', rs, so, e, fun J H1 La x1 so1 wk _ => q J H1 La x1 so1 wk⟩

def iSeq (f : FE) : FI := fun δ => (f δ).bd fun d => M.of d.items
theorem wk_lst {K : PySem.W.Frag} {S : Sr} {H : Hp} {a : Addr} {vs : List V} {ds : List D} {L : List Addr} (h : H a = some (.lst vs)) (n : ¬ S.hid a) (r : Rps S H vs ds L) : Wk S (Itl K a) H ds (a :: L) where
  la := fun b hb => by
    rcases List.mem_cons.mp hb with rfl | hb
    · exact ⟨n, _, h⟩
    · exact r.ne b hb
  go := fun i H' k hi => by
    have e := k.lst a _ (fun z => z List.mem_cons_self) h
    have hi' : i < vs.length := by rw [r.len]; exact hi
    exact ⟨vs, vs[i], SqL.of e, by simp [hi']⟩
  yld := fun i H' x H2 k tr hi ⟨e1, e2⟩ => by
    subst e1
    have e := k.lst a _ (fun z => z List.mem_cons_self) h
    obtain ⟨v, L', h1, h2, h3⟩ := r.get (List.getElem?_eq_getElem hi)
    have hx := e2 vs (SqL.of e)
    rw [h1] at hx
    cases hx
    exact ⟨_, L', List.getElem?_eq_getElem hi, HE.refl, h2.ext k (fun b hb z => z (List.mem_cons_of_mem _ (h3 b hb))), fun b hb => List.mem_cons_of_mem _ (h3 b hb)⟩
  stop := fun i H' k hi => ⟨vs, SqL.of (k.lst a _ (fun z => z List.mem_cons_self) h), by rw [r.len]; exact hi⟩
theorem HE.rdt {W : Addr → Prop} {H H' : Hp} {a : Addr} {vs : List V} (k : HE W H H') (h : Rd H a (.tup vs)) : Rd H' a (.tup vs) := h.elim (fun z => .inl (k.tup a _ z)) fun ⟨o, z⟩ => .inr ⟨o, k.fz a o _ z⟩
theorem wk_tup {K : PySem.W.Frag} {S : Sr} {H : Hp} {a : Addr} {vs : List V} {ds : List D} {L : List Addr} (h : Rd H a (.tup vs)) (r : Rps S H vs ds L) : Wk S (Itt K a) H ds L where
  la := r.ne
  go := fun i H' k hi => by
    have e := k.rdt h
    have hi' : i < vs.length := by rw [r.len]; exact hi
    exact ⟨vs, vs[i], .inl e, by simp [hi']⟩
  yld := fun i H' x H2 k tr hi ⟨e1, e2⟩ => by
    subst e1
    have e := k.rdt h
    obtain ⟨v, L', h1, h2, h3⟩ := r.get (List.getElem?_eq_getElem hi)
    have hx := e2 vs (.inl e)
    rw [h1] at hx
    cases hx
    exact ⟨_, L', List.getElem?_eq_getElem hi, HE.refl, h2.ext k (fun b hb z => z (h3 b hb)), h3⟩
  stop := fun i H' k hi => ⟨vs, .inl (k.rdt h), by rw [r.len]; exact hi⟩
/-- a list of pairs (i, item) -/
def enumD : Nat → List D → List D
  | _, [] => []
  | i, d :: ds => .tup [.int (i : Nat), d] :: enumD (i + 1) ds
theorem enumD_len : ∀ (ds : List D) (i : Nat), (enumD i ds).length = ds.length
  | [], _ => rfl
  | d :: ds, i => by simp [enumD, enumD_len ds]
theorem enumD_get : ∀ (ds : List D) (k i : Nat), (enumD k ds)[i]? = ds[i]?.map fun d => .tup [.int ((k + i : Nat) : Int), d]
  | [], _, _ => by simp [enumD]
  | d :: ds, k, 0 => by simp [enumD]
  | d :: ds, k, i + 1 => by
    simp only [enumD, List.getElem?_cons_succ]
    rw [enumD_get ds (k + 1) i, show k + 1 + i = k + (i + 1) by omega]
theorem wk_enumL {K : PySem.W.Frag} {S : Sr} {H : Hp} {a : Addr} {vs : List V} {ds : List D} {L : List Addr} (h : H a = some (.lst vs)) (n : ¬ S.hid a) (r : Rps S H vs ds L) : Wk S (Ite K a) H (enumD 0 ds) (a :: L) where
  la := (wk_lst (K := K) h n r).la
  go := fun i H' k hi => (wk_lst (K := K) h n r).go i H' k (by rwa [enumD_len] at hi)
  yld := fun i H' x H2 k tr hi ⟨T, y, e1, e2, e3, e4⟩ => by
    subst e1 e3
    rw [enumD_len] at hi
    obtain ⟨d, L', h1, _, h3, h4⟩ := (wk_lst (K := K) h n r).yld i H' y H' k tr hi ⟨rfl, e4⟩
    refine ⟨.tup [.int (i : Nat), d], L', by rw [enumD_get, h1]; simp, HE.fresh e2, ?_, h4⟩
    have q := Rps.cons (Rp.int (S := S) (H := upd H' T (.tup [.int (i : Nat), y])) (i : Nat)) (Rps.one (h3.ext0 (HE.fresh e2)))
    exact .tup upd_same (by simpa using q)
  stop := fun i H' k hi => (wk_lst (K := K) h n r).stop i H' k (by rwa [enumD_len] at hi)
theorem wk_enumT {K : PySem.W.Frag} {S : Sr} {H : Hp} {a : Addr} {vs : List V} {ds : List D} {L : List Addr} (h : Rd H a (.tup vs)) (r : Rps S H vs ds L) : Wk S (IteT K a) H (enumD 0 ds) L where
  la := r.ne
  go := fun i H' k hi => (wk_tup (K := K) h r).go i H' k (by rwa [enumD_len] at hi)
  yld := fun i H' x H2 k tr hi ⟨T, y, e1, e2, e3, e4⟩ => by
    subst e1 e3
    rw [enumD_len] at hi
    obtain ⟨d, L', h1, _, h3, h4⟩ := (wk_tup (K := K) h r).yld i H' y H' k tr hi ⟨rfl, e4⟩
    refine ⟨.tup [.int (i : Nat), d], L', by rw [enumD_get, h1]; simp, HE.fresh e2, ?_, h4⟩
    have q := Rps.cons (Rp.int (S := S) (H := upd H' T (.tup [.int (i : Nat), y])) (i : Nat)) (Rps.one (h3.ext0 (HE.fresh e2)))
    exact .tup upd_same (by simpa using q)
  stop := fun i H' k hi => (wk_tup (K := K) h r).stop i H' k (by rwa [enumD_len] at hi)
/-- a range's ints -/
def rngD (lo : Int) : Nat → List D
  | 0 => []
  | n + 1 => .int lo :: rngD (lo + 1) n
theorem rngD_len : ∀ (n : Nat) (lo : Int), (rngD lo n).length = n
  | 0, _ => rfl
  | n + 1, lo => by simp [rngD, rngD_len n]
theorem rngD_get : ∀ (n : Nat) (lo : Int) (i : Nat), i < n → (rngD lo n)[i]? = some (.int (lo + (i : Nat)))
  | n + 1, lo, 0, _ => by simp [rngD]
  | n + 1, lo, i + 1, h => by
    simp only [rngD, List.getElem?_cons_succ]
    rw [rngD_get n (lo + 1) i (by omega), show lo + 1 + (i : Int) = lo + ((i + 1 : Nat) : Int) by omega]
theorem wk_rng {S : Sr} {H : Hp} (lo : Int) (n : Nat) : Wk S (Itr lo n) H (rngD lo n) [] where
  la := fun _ h => nomatch h
  go := fun i H' k hi => by rw [rngD_len] at hi; exact hi
  yld := fun i H' x H2 k tr hi ⟨e1, e2⟩ => by
    subst e1 e2
    rw [rngD_len] at hi
    exact ⟨_, [], rngD_get n lo i hi, HE.refl, .int _, fun _ h => h⟩
  stop := fun i H' k hi => by rw [rngD_len] at hi; exact hi
def zipD : List D → List D → List D
  | d :: ds, e :: es => .tup [d, e] :: zipD ds es
  | _, _ => []
theorem zipD_get : ∀ (ds es : List D) (i : Nat) (d e : D), ds[i]? = some d → es[i]? = some e → (zipD ds es)[i]? = some (.tup [d, e])
  | d :: ds, e :: es, 0, _, _, h1, h2 => by cases h1; cases h2; rfl
  | d :: ds, e :: es, i + 1, _, _, h1, h2 => by
    simp only [zipD, List.getElem?_cons_succ] at *
    exact zipD_get ds es i _ _ h1 h2
  | [], _, _, _, _, h1, _ => by simp at h1
  | _ :: _, [], _, _, _, _, h2 => by simp at h2
theorem zipD_len : ∀ (ds es : List D), (zipD ds es).length = min ds.length es.length
  | [], es => by simp [zipD]
  | d :: ds, [] => by simp [zipD]
  | d :: ds, e :: es => by simp [zipD, zipD_len ds es]
theorem wk_zipT {K : PySem.W.Frag} {S : Sr} {H : Hp} {a b : Addr} {vs ws : List V} {ds es : List D} {L L' : List Addr} (h : Rd H a (.tup vs)) (r : Rps S H vs ds L) (h' : Rd H b (.tup ws)) (r' : Rps S H ws es L') : Wk S (ItzT K a b) H (zipD ds es) (L ++ L') where
  la := fun c hc => (List.mem_append.mp hc).elim (r.ne c) (r'.ne c)
  go := fun i H1 k hi => by
    rw [zipD_len] at hi
    have h1 : i < vs.length := by rw [r.len]; omega
    have h2 : i < ws.length := by rw [r'.len]; omega
    exact ⟨vs, ws, vs[i], ws[i], .inl (k.rdt h), .inl (k.rdt h'), by simp [h1], by simp [h2]⟩
  yld := fun i H1 x H2 k tr hi ⟨T, y, z, e1, e2, e3, e4, e5⟩ => by
    subst e1 e3
    rw [zipD_len] at hi
    have h1 : i < ds.length := by omega
    have h2 : i < es.length := by omega
    obtain ⟨v, L1, p1, p2, p3⟩ := r.get (List.getElem?_eq_getElem h1)
    obtain ⟨w, L2', q1, q2, q3⟩ := r'.get (List.getElem?_eq_getElem h2)
    have hx := e4 vs (.inl (k.rdt h))
    rw [p1] at hx
    cases hx
    have hy := e5 ws (.inl (k.rdt h'))
    rw [q1] at hy
    cases hy
    have he : HE0 H1 (upd H1 T (.tup [y, z])) := HE.fresh e2
    have rv := (p2.ext k (fun c hc m => m (List.mem_append_left _ (p3 c hc)))).ext0 he
    have rw' := (q2.ext k (fun c hc m => m (List.mem_append_right _ (q3 c hc)))).ext0 he
    exact ⟨_, L1 ++ L2', zipD_get ds es i _ _ (List.getElem?_eq_getElem h1) (List.getElem?_eq_getElem h2), he, .tup upd_same (.cons rv (Rps.one rw')), fun c hc => (List.mem_append.mp hc).elim (fun m => List.mem_append_left _ (p3 c m)) fun m => List.mem_append_right _ (q3 c m)⟩
  stop := fun i H1 k hi => by
    rw [zipD_len] at hi
    exact ⟨vs, ws, .inl (k.rdt h), .inl (k.rdt h'), by rw [r.len, r'.len]; omega⟩
theorem wk_zipL {K : PySem.W.Frag} {S : Sr} {H : Hp} {a b : Addr} {vs ws : List V} {ds es : List D} {L L' : List Addr} (h : H a = some (.lst vs)) (n : ¬ S.hid a) (r : Rps S H vs ds L) (h' : H b = some (.lst ws)) (n' : ¬ S.hid b) (r' : Rps S H ws es L') : Wk S (Itz K a b) H (zipD ds es) ((a :: L) ++ (b :: L')) where
  la := fun c hc => (List.mem_append.mp hc).elim (fun m => (List.mem_cons.mp m).elim (fun e => e ▸ ⟨n, _, h⟩) (r.ne c)) (fun m => (List.mem_cons.mp m).elim (fun e => e ▸ ⟨n', _, h'⟩) (r'.ne c))
  go := fun i H1 k hi => by
    rw [zipD_len] at hi
    have h1 : i < vs.length := by rw [r.len]; omega
    have h2 : i < ws.length := by rw [r'.len]; omega
    exact ⟨vs, ws, vs[i], ws[i], SqL.of (k.lst a _ (fun z => z (by simp)) h), SqL.of (k.lst b _ (fun z => z (by simp)) h'), by simp [h1], by simp [h2]⟩
  yld := fun i H1 x H2 k tr hi ⟨T, y, z, e1, e2, e3, e4, e5⟩ => by
    subst e1 e3
    rw [zipD_len] at hi
    have h1 : i < ds.length := by omega
    have h2 : i < es.length := by omega
    obtain ⟨v, L1, p1, p2, p3⟩ := r.get (List.getElem?_eq_getElem h1)
    obtain ⟨w, L2', q1, q2, q3⟩ := r'.get (List.getElem?_eq_getElem h2)
    have hx := e4 vs (SqL.of (k.lst a _ (fun z => z (by simp)) h))
    rw [p1] at hx
    cases hx
    have hy := e5 ws (SqL.of (k.lst b _ (fun z => z (by simp)) h'))
    rw [q1] at hy
    cases hy
    have he : HE0 H1 (upd H1 T (.tup [y, z])) := HE.fresh e2
    have rv := (p2.ext k (fun c hc m => m (List.mem_append_left _ (List.mem_cons_of_mem _ (p3 c hc))))).ext0 he
    have rw' := (q2.ext k (fun c hc m => m (List.mem_append_right _ (List.mem_cons_of_mem _ (q3 c hc))))).ext0 he
    exact ⟨_, L1 ++ L2', zipD_get ds es i _ _ (List.getElem?_eq_getElem h1) (List.getElem?_eq_getElem h2), he, .tup upd_same (.cons rv (Rps.one rw')), fun c hc => (List.mem_append.mp hc).elim (fun m => List.mem_append_left _ (List.mem_cons_of_mem _ (p3 c m))) fun m => List.mem_append_right _ (List.mem_cons_of_mem _ (q3 c m))⟩
  stop := fun i H1 k hi => by
    rw [zipD_len] at hi
    exact ⟨vs, ws, SqL.of (k.lst a _ (fun z => z (by simp)) h), SqL.of (k.lst b _ (fun z => z (by simp)) h'), by rw [r.len, r'.len]; omega⟩

section
variable {X : Cx} {tg : Expr}
theorem _root_.L2.PI.or {e : Expr} {t t' : TI} (p : PI X tg e t) (p' : PI X tg e t') : PI X tg e (fun σ H R => t σ H R ∨ t' σ H R) := ⟨fun pins s σ H R I w => w.elim (p.run pins s σ H R I) (p'.run pins s σ H R I)⟩
theorem di_seq {e : Expr} {f : FE} (he : DE X e f) : DI X tg e (iSeq f) := ((pi_list he).or (pi_tup he)).imp fun σ H R ⟨S, δ, st, ds, st', rs, so, e, q⟩ => by
  obtain ⟨d, s1, ea, e⟩ := bd_inv e
  obtain ⟨eo, es⟩ := of_inv e
  subst es
  cases d with
  | lst xs =>
    cases eo
    refine .inl ⟨S, δ, st, _, _, rs, so, ea, fun v H1 L x1 so1 r => ?_⟩
    obtain ⟨a, vs, L1, rfl, ha, na, rs', rfl⟩ := r.ilst
    exact ⟨a, rfl, ⟨vs, SqL.of ha⟩, q _ H1 _ x1 so1 (wk_lst ha na rs')⟩
  | tup xs =>
    cases eo
    refine .inr ⟨S, δ, st, _, _, rs, so, ea, fun v H1 L x1 so1 r => ?_⟩
    obtain ⟨a, vs, rfl, ha, rs'⟩ := r.itup
    exact ⟨a, rfl, ⟨vs, SqT.of ha⟩, q _ H1 _ x1 so1 (wk_tup (.inl ha) rs')⟩
  | tupk xs =>
    cases eo
    refine .inr ⟨S, δ, st, _, _, rs, so, ea, fun v H1 L x1 so1 r => ?_⟩
    obtain ⟨a, ob, vs, rfl, ha, _, rs'⟩ := r.itupk
    exact ⟨a, rfl, ⟨vs, .inl (.inr ⟨_, ha⟩)⟩, q _ H1 _ x1 so1 (wk_tup (.inr ⟨_, ha⟩) rs')⟩
  | _ => cases eo
def rg1 : List D → Option (List D)
  | [.int j] => if j.natAbs ≤ 1000000 then some (rngD 0 j.toNat) else none
  | _ => none
def rg2 : List D → Option (List D)
  | [.int i, .int j] => if i.natAbs ≤ 1000000 ∧ j.natAbs ≤ 1000000 then some (rngD i (j - i).toNat) else none
  | _ => none
def iOf (o : List D → Option (List D)) (fs : Ev → M (List D)) : FI := fun δ => (fs δ).bd fun ds => M.of (o ds)
theorem dif_range1 {a : Expr} {fs : Ev → M (List D)} {p pos : Pos} (hg : Gl X "range") (hm : X.mg "range" = none) (ha : DA X [a] fs) (hs : starEach [a] X.env = [(false, eval a X.env)] := by rfl) : DIF X tg (.Call (.Name "range" p) [a] [] pos) (iOf rg1 fs) :=
  (pi_range1 hg hm ha hs).imp fun σ H R ⟨S, δ, st, ds, st', rs, so, e, q⟩ => by
  obtain ⟨xs, s1, ea, e⟩ := bd_inv e
  obtain ⟨eo, es⟩ := of_inv e
  subst es
  refine ⟨S, δ, st, xs, _, rs, so, ea, fun vs H1 L x1 so1 r => ?_⟩
  match xs, eo with
  | [.int j], eo =>
    have eo : (if j.natAbs ≤ 1000000 then some (rngD 0 j.toNat) else none) = some ds := eo
    obtain ⟨v, rfl, r1⟩ := r.i1
    obtain ⟨rfl, rfl⟩ := r1.iint
    by_cases h : j.natAbs ≤ 1000000
    · rw [if_pos h] at eo
      cases eo
      exact ⟨j, rfl, by omega, by omega, q _ H1 [] x1 so1 (wk_rng 0 j.toNat) (fun _ z => nomatch z)⟩
    · rw [if_neg h] at eo; cases eo
theorem dif_range2 {a b : Expr} {fs : Ev → M (List D)} {p pos : Pos} (hg : Gl X "range") (hm : X.mg "range" = none) (ha : DA X [a, b] fs) (hs : starEach [a, b] X.env = [(false, eval a X.env), (false, eval b X.env)] := by rfl) (hs2 : starEach [b] X.env = [(false, eval b X.env)] := by rfl) :
    DIF X tg (.Call (.Name "range" p) [a, b] [] pos) (iOf rg2 fs) :=
  (pi_range2 hg hm ha hs hs2).imp fun σ H R ⟨S, δ, st, ds, st', rs, so, e, q⟩ => by
  obtain ⟨xs, s1, ea, e⟩ := bd_inv e
  obtain ⟨eo, es⟩ := of_inv e
  subst es
  refine ⟨S, δ, st, xs, _, rs, so, ea, fun vs H1 L x1 so1 r => ?_⟩
  match xs, eo with
  | [.int i, .int j], eo =>
    have eo : (if i.natAbs ≤ 1000000 ∧ j.natAbs ≤ 1000000 then some (rngD i (j - i).toNat) else none) = some ds := eo
    obtain ⟨v, u, L1, L2', rfl, r1, r2⟩ := r.i2
    obtain ⟨rfl, rfl⟩ := r1.iint
    obtain ⟨rfl, rfl⟩ := r2.iint
    by_cases h : i.natAbs ≤ 1000000 ∧ j.natAbs ≤ 1000000
    · rw [if_pos h] at eo
      cases eo
      exact ⟨i, j, rfl, ⟨by omega, by omega, by omega, by omega⟩, q _ H1 [] x1 so1 (wk_rng i (j - i).toNat) (fun _ z => nomatch z)⟩
    · rw [if_neg h] at eo; cases eo
def en1 : List D → Option (List D)
  | [d] => d.items.map (enumD 0)
  | _ => none
theorem di_enum {e : Expr} {fs : Ev → M (List D)} {p pos tpos : Pos} {elts : List Expr} {kk : Nat} (hg : Gl X "enumerate") (hm : X.mg "enumerate" = none) (ha : DA X [e] fs) (hs : starEach [e] X.env = [(false, eval e X.env)] := by rfl) :
    DI X (.Tuple elts kk tpos) (.Call (.Name "enumerate" p) [e] [] pos) (iOf en1 fs) := ((pi_enum hg hm ha hs).or (pi_enumT hg hm ha hs)).imp fun σ H R ⟨S, δ, st, ds, st', rs, so, e, q⟩ => by
  obtain ⟨xs, s1, ea, e⟩ := bd_inv e
  obtain ⟨eo, es⟩ := of_inv e
  subst es
  match xs, eo with
  | [d], eo =>
    obtain ⟨ys, e1, e2⟩ := Option.map_eq_some_iff.mp (show d.items.map (enumD 0) = some ds from eo)
    subst e2
    cases d with
    | lst xs =>
      cases e1
      refine .inl ⟨S, δ, st, _, _, rs, so, ea, fun vs H1 L x1 so1 r => ?_⟩
      obtain ⟨v, rfl, r1⟩ := r.i1
      obtain ⟨a, vs, L1, rfl, ha, na, rs', rfl⟩ := r1.ilst
      exact ⟨a, vs, rfl, SqL.of ha, q _ H1 _ x1 so1 (wk_enumL ha na rs')⟩
    | tup xs =>
      cases e1
      refine .inr ⟨S, δ, st, _, _, rs, so, ea, fun vs H1 L x1 so1 r => ?_⟩
      obtain ⟨v, rfl, r1⟩ := r.i1
      obtain ⟨a, vs, rfl, ha, rs'⟩ := r1.itup
      exact ⟨a, vs, rfl, SqT.of ha, q _ H1 _ x1 so1 (wk_enumT (.inl ha) rs')⟩
    | tupk xs =>
      cases e1
      refine .inr ⟨S, δ, st, _, _, rs, so, ea, fun vs H1 L x1 so1 r => ?_⟩
      obtain ⟨v, rfl, r1⟩ := r.i1
      obtain ⟨a, ob, vs, rfl, ha, _, rs'⟩ := r1.itupk
      exact ⟨a, vs, rfl, .inl (.inr ⟨_, ha⟩), q _ H1 _ x1 so1 (wk_enumT (.inr ⟨_, ha⟩) rs')⟩
    | _ => cases e1
def zp2 : List D → Option (List D)
  | [.tup xs, .tup ys] => some (zipD xs ys)
  | [.lst xs, .lst ys] => some (zipD xs ys)
  | _ => none
theorem di_zip {e e2 : Expr} {fs : Ev → M (List D)} {p pos tpos : Pos} {elts : List Expr} {kk : Nat} (hg : Gl X "zip") (hm : X.mg "zip" = none) (ha : DA X [e, e2] fs)
    (hs : starEach [e, e2] X.env = (false, eval e X.env) :: starEach [e2] X.env := by rfl) (hpl : (backTo pos (starEach [e2] X.env)).any (·.1) = false := by rfl) :
    DI X (.Tuple elts kk tpos) (.Call (.Name "zip" p) [e, e2] [] pos) (iOf zp2 fs) := (pi_zipA hg hm ha hs hpl).imp fun σ H R ⟨S, δ, st, ds, st', rs, so, e, q⟩ => by
  obtain ⟨xs, s1, ea, e⟩ := bd_inv e
  obtain ⟨eo, es⟩ := of_inv e
  subst es
  refine ⟨S, δ, st, xs, _, rs, so, ea, fun vs H1 L x1 so1 r => ?_⟩
  match xs, eo with
  | [.tup xs, .tup ys], eo =>
    cases eo
    obtain ⟨v, u, L1, L2', rfl, r1, r2⟩ := r.i2
    obtain ⟨a, vs, rfl, ha, rs1⟩ := r1.itup
    obtain ⟨b, ws, rfl, hb, rs2⟩ := r2.itup
    exact ⟨a, b, vs, ws, rfl, .inr ⟨SqT.of ha, SqT.of hb, q _ H1 _ x1 so1 (wk_zipT (.inl ha) rs1 (.inl hb) rs2)⟩⟩
  | [.lst xs, .lst ys], eo =>
    cases eo
    obtain ⟨v, u, L1, L2', rfl, r1, r2⟩ := r.i2
    obtain ⟨a, vs, La, rfl, ha, na, rs1, rfl⟩ := r1.ilst
    obtain ⟨b, ws, Lb, rfl, hb, nb, rs2, rfl⟩ := r2.ilst
    exact ⟨a, b, vs, ws, rfl, .inl ⟨SqL.of ha, SqL.of hb, q _ H1 _ x1 so1 (wk_zipL ha na rs1 hb nb rs2)⟩⟩

/-! ### tuples without lists, for loops of statements -/
def lfT : D → Option (List D)
  | .tup xs => if lfs xs = true then some xs else none
  | .tupk xs => if lfs xs = true then some xs else none
  | _ => none
theorem Rp.rdt {S : Sr} {H : Hp} {v : V} {d : D} {L : List Addr} {xs : List D} (r : Rp S H v d L) (h : d = .tup xs ∨ d = .tupk xs) : ∃ a vs, v = .ref a ∧ Rd H a (.tup vs) ∧ Rps S H vs xs L := by
  rcases h with rfl | rfl
  · obtain ⟨a, vs, h1, h2, h3⟩ := r.itup
    exact ⟨a, vs, h1, .inl h2, h3⟩
  · obtain ⟨a, o, vs, h1, h2, _, h3⟩ := r.itupk
    exact ⟨a, vs, h1, .inr ⟨o, h2⟩, h3⟩
theorem lfT_inv {d : D} {xs : List D} (h : lfT d = some xs) : (d = .tup xs ∨ d = .tupk xs) ∧ lfs xs = true := by
  cases d with
  | tupk ys =>
    have h : (if lfs ys = true then some ys else none) = some xs := h
    by_cases hl : lfs ys = true
    · rw [if_pos hl] at h; cases h; exact ⟨.inr rfl, hl⟩
    · rw [if_neg hl] at h; cases h
  | tup ys =>
    have h : (if lfs ys = true then some ys else none) = some xs := h
    by_cases hl : lfs ys = true
    · rw [if_pos hl] at h; cases h; exact ⟨.inl rfl, hl⟩
    · rw [if_neg hl] at h; cases h
  | _ => cases h
def iSeqT (f : FE) : FI := fun δ => (f δ).bd fun d => M.of (lfT d)
theorem dif_seq {e : Expr} {f : FE} (he : DE X e f) : DIF X tg e (iSeqT f) := (pi_tup he).imp fun σ H R ⟨S, δ, st, ds, st', rs, so, e, q⟩ => by
  obtain ⟨d, s1, ea, e⟩ := bd_inv e
  obtain ⟨eo, es⟩ := of_inv e
  subst es
  obtain ⟨hd, hl⟩ := lfT_inv eo
  refine ⟨S, δ, st, _, _, rs, so, ea, fun v H1 L x1 so1 r => ?_⟩
  obtain ⟨a, vs, rfl, ha, rs'⟩ := r.rdt hd
  have hL := rs'.nils hl
  subst hL
  exact ⟨a, rfl, ⟨vs, .inl ha⟩, q _ H1 _ x1 so1 (wk_tup ha rs') fun _ z => nomatch z⟩
def en1T : List D → Option (List D)
  | [d] => (lfT d).map (enumD 0)
  | _ => none
theorem dif_enum {e : Expr} {fs : Ev → M (List D)} {p pos tpos : Pos} {elts : List Expr} {kk : Nat} (hg : Gl X "enumerate") (hm : X.mg "enumerate" = none) (ha : DA X [e] fs) (hs : starEach [e] X.env = [(false, eval e X.env)] := by rfl) :
    DIF X (.Tuple elts kk tpos) (.Call (.Name "enumerate" p) [e] [] pos) (iOf en1T fs) := (pi_enumT hg hm ha hs).imp fun σ H R ⟨S, δ, st, ds, st', rs, so, e, q⟩ => by
  obtain ⟨xs, s1, ea, e⟩ := bd_inv e
  obtain ⟨eo, es⟩ := of_inv e
  subst es
  match xs, eo with
  | [d], eo =>
    obtain ⟨ys, e1, e2⟩ := Option.map_eq_some_iff.mp (show (lfT d).map (enumD 0) = some ds from eo)
    subst e2
    obtain ⟨hd, hl⟩ := lfT_inv e1
    refine ⟨S, δ, st, _, _, rs, so, ea, fun vs H1 L x1 so1 r => ?_⟩
    obtain ⟨v, rfl, r1⟩ := r.i1
    obtain ⟨a, vs, rfl, ha, rs'⟩ := r1.rdt hd
    have hL := rs'.nils hl
    subst hL
    exact ⟨a, vs, rfl, .inl ha, q _ H1 _ x1 so1 (wk_enumT ha rs') fun _ z => nomatch z⟩
def zp2T : List D → Option (List D)
  | [d, e] => (lfT d).bind fun xs => (lfT e).map (zipD xs)
  | _ => none
theorem dif_zip {e e2 : Expr} {fs : Ev → M (List D)} {p pos tpos : Pos} {elts : List Expr} {kk : Nat} (hg : Gl X "zip") (hm : X.mg "zip" = none) (ha : DA X [e, e2] fs)
    (hs : starEach [e, e2] X.env = (false, eval e X.env) :: starEach [e2] X.env := by rfl) (hpl : (backTo pos (starEach [e2] X.env)).any (·.1) = false := by rfl) :
    DIF X (.Tuple elts kk tpos) (.Call (.Name "zip" p) [e, e2] [] pos) (iOf zp2T fs) := (pi_zipA hg hm ha hs hpl).imp fun σ H R ⟨S, δ, st, ds, st', rs, so, e, q⟩ => by
  obtain ⟨xs, s1, ea, e⟩ := bd_inv e
  obtain ⟨eo, es⟩ := of_inv e
  subst es
  refine ⟨S, δ, st, xs, _, rs, so, ea, fun vs H1 L x1 so1 r => ?_⟩
  match xs, eo with
  | [d, e], eo =>
    obtain ⟨xs, e1, eo⟩ := Option.bind_eq_some_iff.mp (show (lfT d).bind (fun xs => (lfT e).map (zipD xs)) = some ds from eo)
    obtain ⟨ys, e2, e3⟩ := Option.map_eq_some_iff.mp eo
    subst e3
    obtain ⟨hd, hl⟩ := lfT_inv e1
    obtain ⟨hd2, hl2⟩ := lfT_inv e2
    obtain ⟨v, u, L1, L2', rfl, r1, r2⟩ := r.i2
    obtain ⟨a, vs, rfl, ha, rs1⟩ := r1.rdt hd
    obtain ⟨b, ws, rfl, hb, rs2⟩ := r2.rdt hd2
    have hL := rs1.nils hl
    have hL2 := rs2.nils hl2
    subst hL hL2
    exact ⟨a, b, vs, ws, rfl, .inr ⟨.inl ha, .inl hb, q _ H1 _ x1 so1 (wk_zipT ha rs1 hb rs2) fun _ z => nomatch z⟩⟩
end

/-! ### targets (in a comprehension) -/
def tGd (vs : List Nat) (g : D → Ev → Option Ev) : TG := fun v σ H Q => ∃ S δ d L δ', Rs S H σ δ ∧ Rp S H v d L ∧ g d δ = some δ' ∧ ∀ σ', (∀ j, j ∉ vs → σ'[j]? = σ[j]?) → σ'.length = σ.length → Rs S H σ' δ' → Q σ' H
def tGsd (vs : List Nat) (g : List D → Ev → Option Ev) : TGs := fun xs σ H Q => ∃ S δ ds L δ', Rs S H σ δ ∧ Rps S H xs ds L ∧ g ds δ = some δ' ∧ ∀ σ', (∀ j, j ∉ vs → σ'[j]? = σ[j]?) → σ'.length = σ.length → Rs S H σ' δ' → Q σ' H
abbrev DG (X : Cx) (e : Expr) (vs : List Nat) (g : D → Ev → Option Ev) : Prop := PG X e (tGd vs g)
abbrev DGs (X : Cx) (es : List Expr) (vs : List Nat) (g : List D → Ev → Option Ev) : Prop := PGs X es (tGsd vs g)
theorem _root_.L2.PG.imp {X : Cx} {e : Expr} {t t' : TG} (p : PG X e t) (h : ∀ v σ H Q, t' v σ H Q → t v σ H Q) : PG X e t' := ⟨fun pins s σ H v u Q I r w => p.run pins s σ H v u Q I r (h v σ H Q w)⟩
theorem _root_.L2.PGs.imp {X : Cx} {e : List Expr} {t t' : TGs} (p : PGs X e t) (h : ∀ v σ H Q, t' v σ H Q → t v σ H Q) : PGs X e t' := ⟨fun pins s σ H v u Q I r w => p.run pins s σ H v u Q I r (h v σ H Q w)⟩
def gN (i : Nat) : D → Ev → Option Ev := fun d δ => some (δ.set i (.rd d))
def gs0 : List D → Ev → Option Ev := fun ds δ => match ds with | [] => some δ | _ => none
def gsC (g : D → Ev → Option Ev) (gs : List D → Ev → Option Ev) : List D → Ev → Option Ev := fun ds δ => match ds with | d :: r => (g d δ).bind (gs r) | [] => none
def gT (n : Nat) (gs : List D → Ev → Option Ev) : D → Ev → Option Ev := fun d δ => match d with | .tup ds => if ds.length = n then gs ds δ else none | _ => none
section
variable {X : Cx} {vs ws : List Nat} {pos : Pos}
theorem dg_name {i : Nat} {x : Str} (hN : X.N.Nodup) (hi : X.N[i]? = some x) (hx : Loc X.env.scope x) (hf : X.fn x = true ∨ X.env.scope.names.lookup x = some .local := by first | exact .inl rfl | exact .inr rfl | assumption) : DG X (.Name x pos) [i] (gN i) :=
  (pg_name hN hi hx hf).imp fun v σ H Q ⟨S, δ, d, L, δ', rs, r, e, q⟩ => by
  cases e
  exact q _ (fun j hj => List.getElem?_set_ne (by simpa [eq_comm] using hj)) (by simp) (rs.set fun d' e => by cases e; exact ⟨L, r⟩)
theorem dgs_nil : DGs X [] [] gs0 := pgs_nil.imp fun v σ H Q ⟨S, δ, ds, L, δ', rs, r, e, q⟩ => by
  cases r with
  | nil =>
    cases e
    exact ⟨rfl, q σ (fun _ _ => rfl) rfl rs⟩
  | cons => cases e
theorem dgs_cons {e : Expr} {es : List Expr} {g : D → Ev → Option Ev} {gs : List D → Ev → Option Ev} (h1 : DG X e vs g) (h2 : DGs X es ws gs)
    (hs : (assignEach (e :: es) X.env).map (·.2) = assign e X.env :: (assignEach es X.env).map (·.2) := by rfl) : DGs X (e :: es) (vs ++ ws) (gsC g gs) := (pgs_cons h1 h2 hs).imp fun v σ H Q ⟨S, δ, ds, L, δ', rs, r, e, q⟩ => by
  cases r with
  | nil => cases e
  | cons r rr =>
    obtain ⟨δ1, e1, e2⟩ := Option.bind_eq_some_iff.mp (show (g _ δ).bind (gs _) = some δ' from e)
    exact ⟨_, _, rfl, S, δ, _, _, δ1, rs, r, e1, fun σ' o l rs1 => ⟨S, δ1, _, _, δ', rs1, rr, e2, fun σ2 o2 l2 rs2 => q σ2 (fun j hj => (o2 j fun z => hj (List.mem_append_right _ z)).trans (o j fun z => hj (List.mem_append_left _ z))) (l2.trans l) rs2⟩⟩
theorem dg_tup {es : List Expr} {k : Nat} {n : Nat} {gs : List D → Ev → Option Ev} (hc : X.calm = true) (h : DGs X es vs gs)
    (hn : (assignEach es X.env).length = n := by rfl) (hst : (assignEach es X.env).findIdx? (·.1) = none := by rfl) : DG X (.Tuple es k pos) vs (gT n gs) := (pg_tup hc h hn hst).imp fun v σ H Q ⟨S, δ, d, L, δ', rs, r, e, q⟩ => by
  cases d with
  | tup ds =>
    have e : (if ds.length = n then gs ds δ else none) = some δ' := e
    obtain ⟨a, vs', rfl, ha, rr⟩ := r.itup
    by_cases hl : ds.length = n
    · rw [if_pos hl] at e
      exact ⟨a, vs', rfl, SqT.of ha, rr.len.trans hl, S, δ, ds, L, δ', rs, rr, e, q⟩
    · rw [if_neg hl] at e; cases e
  | _ => cases e
end

/-! ### list comprehensions -/
def wipeE (δ : Ev) : List Nat → Ev
  | [] => δ
  | v :: vs => (wipeE δ vs).set v .no
theorem Rs.setNo {S : Sr} {H : Hp} {σ : L2.St} {δ : Ev} (r : Rs S H σ δ) (i : Nat) : Rs S H (σ.set i none) (δ.set i .no) := ⟨by simp [r.len], fun j d e => by
  rw [gt_set] at e
  by_cases hij : i = j
  · subst hij
    rw [if_pos rfl] at e
    split at e <;> cases e
  · rw [if_neg hij] at e
    obtain ⟨w, L, h1, h2⟩ := r.at_ j d e
    exact ⟨w, L, by rw [List.getElem?_set_ne hij]; exact h1, h2⟩⟩
theorem Rs.wipe {S : Sr} {H : Hp} {σ : L2.St} {δ : Ev} (r : Rs S H σ δ) : ∀ vs : List Nat, Rs S H (wipe σ vs) (wipeE δ vs)
  | [] => r
  | v :: vs => (r.wipe vs).setNo v
theorem wipe_get {σ : L2.St} {j : Nat} : ∀ vs : List Nat, (wipe σ vs)[j]? = if j ∈ vs then (if j < σ.length then some none else none) else σ[j]?
  | [] => by simp [wipe]
  | v :: vs => by
    unfold wipe
    by_cases h : v = j
    · subst h
      rw [if_pos (by simp)]
      by_cases hl : v < σ.length
      · rw [if_pos hl, List.getElem?_set_self (by rw [wipe_length]; exact hl)]
      · rw [if_neg hl, List.getElem?_eq_none (by simpa [wipe_length] using hl)]
    · rw [List.getElem?_set_ne h, wipe_get vs]
      by_cases hm : j ∈ vs
      · rw [if_pos hm, if_pos (List.mem_cons_of_mem _ hm)]
      · rw [if_neg hm, if_neg (by simp [hm, Ne.symm h])]
theorem wipe_eq {σ τ : L2.St} {vs : List Nat} (h : ∀ j, j ∉ vs → τ[j]? = (wipe σ vs)[j]?) (l : τ.length = (wipe σ vs).length) : wipe τ vs = wipe σ vs := by
  rw [wipe_length] at l
  refine List.ext_getElem? fun j => ?_
  rw [wipe_get, wipe_get, l]
  by_cases hm : j ∈ vs
  · rw [if_pos hm, if_pos hm]
  · rw [if_neg hm, if_neg hm, h j hm, wipe_get, if_neg hm]
def bYes : Ev → M Bool := fun _ => M.ret true
abbrev DTs (X : Cx) (ifs : List Expr) (f : Ev → M Bool) : Prop := PTs X ifs (tBo f)
theorem _root_.L2.PTs.imp {X : Cx} {e : List Expr} {t t' : TT} (p : PTs X e t) (h : ∀ σ H Q, t' σ H Q → t σ H Q) : PTs X e t' := ⟨fun pins s σ H Q I w => p.run pins s σ H Q I (h σ H Q w)⟩
theorem dts_nil {X : Cx} : DTs X [] bYes := pts_nil.imp fun σ H Q ⟨S, δ, st, d, st', rs, so, e, q⟩ => by
  obtain ⟨e1, e2⟩ := ret_inv e
  subst e1 e2
  exact q H HE.refl so
theorem dts_one {X : Cx} {c : Expr} {f : Ev → M Bool} (h : DT X c f) : DTs X [c] f := pts_one h
/-- the items of a comprehension -/
def cLp (vs : List Nat) (g : D → Ev → Option Ev) (tt : Ev → M Bool) (te : FE) (δ : Ev) : List D → M (List D)
  | [] => M.ret []
  | x :: xs => (M.of (g x (wipeE δ vs))).bd fun δ1 => (tt δ1).bd fun b => if b = true then (te δ1).bd fun y => (cLp vs g tt te δ xs).bd fun ys => M.ret (y :: ys) else cLp vs g tt te δ xs
def eLc (h : FI) (vs : List Nat) (g : D → Ev → Option Ev) (tt : Ev → M Bool) (te : FE) : FE := fun δ => (h δ).bd fun ds => if ds.length ≤ 1000000 then (cLp vs g tt te δ ds).bd fun ys => M.ret (.lst ys) else M.no
theorem HE.out {W : Addr → Prop} {H1 H : Hp} {p : Addr} {o : HO} (h : HE W H1 H) (n : H1 p = none) : HE W H1 (upd H p o) :=
  ⟨fun b xs e => by rw [upd_ne (ne_of_none e n)]; exact h.tup b xs e, fun b xs w e => by rw [upd_ne (ne_of_none e n)]; exact h.lst b xs w e, fun b e => by
    by_cases hb : b = p
    · subst hb; exact n
    · rw [upd_ne hb] at e; exact h.new b e, fun b xs e => by rw [upd_ne (ne_of_none e n)]; exact h.dk b xs e, fun b o u e => by rw [upd_ne (ne_of_none e n)]; exact h.fz b o u e⟩
theorem HE.writeN {H : Hp} {p : Addr} {xs ys : List V} (h : H p = some (.lst xs)) : HE (fun b => b = p) H (upd H p (.lst ys)) := HE.write h rfl
theorem SrcOk.writeN {S : Sr} {H : Hp} {st : Src} {p : Addr} {ys : List V} (h : SrcOk (S.hide p) H st) (n : p ≠ S.dA) (nq : p ≠ S.q) : SrcOk (S.hide p) (upd H p (.lst ys)) st :=
  ⟨h.ne, (upd_ne (Ne.symm n)).trans h.at_, (upd_ne (Ne.symm nq)).trans h.cp, fun b hb => by
    by_cases e : b = p
    · subst e; rw [upd_same]; exact fun z => nomatch z
    · rw [upd_ne e]; exact h.tr b hb⟩
theorem tLc_imp {h : FI} {vs : List Nat} {g : D → Ev → Option Ev} {tt : Ev → M Bool} {te : FE} : ∀ σ H Q, tD (eLc h vs g tt te) σ H Q → tLc (tI h) (tGd vs g) (tBo tt) (tD te) vs σ H Q := fun σ H Q ⟨S, δ, st, d, st', rs, so, e, q⟩ => by
  obtain ⟨ds, s1, eh, e⟩ := bd_inv e
  by_cases hz : ds.length ≤ 1000000
  rotate_left
  · rw [if_neg hz] at e; cases e
  rw [if_pos hz] at e
  obtain ⟨all, s2, ec, e⟩ := bd_inv e
  obtain ⟨e1, e2⟩ := ret_inv e
  subst e1 e2
  refine ⟨S, δ, st, ds, s1, rs, so, eh, fun J H1 La x1 so1 wk Dl nD => ?_⟩
  have nA : Dl ≠ S.dA := fun z => so1.tr _ S.hA (z ▸ nD)
  have nq : Dl ≠ S.q := fun z => so1.tr _ S.hQ (z ▸ nD)
  have rs1 : Rs (S.hide Dl) H1 σ δ := (rs.extS x1).hide fun xs z => by rw [nD] at z; cases z
  have laA : ∀ b, b = S.dA → b ∉ La := fun b e hb => (wk.la b hb).1 (e ▸ S.hA)
  refine ⟨fun i m H => m = ds.length - i ∧ i ≤ ds.length ∧ ∃ acc accD L sti ys, H Dl = some (.lst acc) ∧ Rps (S.hide Dl) H acc accD L ∧ acc.length ≤ i ∧ Ext S H1 H ∧ SrcOk (S.hide Dl) H sti ∧ cLp vs g tt te δ (ds.drop i) sti = some (ys, st') ∧ accD ++ ys = all, ⟨ds.length, rfl, Nat.zero_le _, [], [], [], s1, all, upd_same, .nil, Nat.zero_le _, HE.refl.out nD, (so1.ext0 (HE.fresh nD)).hide (by rw [upd_same]; exact fun z => nomatch z), ec, rfl⟩, ?_⟩
  rintro i m H2 ⟨rfl, hi, acc, accD, L, sti, ys, hD, ra, hl, x2, so2, ec2, eall⟩
  have x2' : HE (fun b => b ∉ La) H1 H2 := x2.mono laA
  by_cases hlt : i < ds.length
  · refine .inr ⟨wk.go i H2 x2' hlt, fun H' => (fun i m H => m = ds.length - i ∧ i ≤ ds.length ∧ ∃ acc accD L sti ys, H Dl = some (.lst acc) ∧ Rps (S.hide Dl) H acc accD L ∧ acc.length ≤ i ∧ Ext S H1 H ∧ SrcOk (S.hide Dl) H sti ∧ cLp vs g tt te δ (ds.drop i) sti = some (ys, st') ∧ accD ++ ys = all) (i + 1) (ds.length - (i + 1)) H', fun H' hN => ⟨ds.length - (i + 1), by omega, hN⟩, fun x H3 y => ?_⟩
    obtain ⟨d, Ld, hd, x3, rd, hLd⟩ := wk.yld i H2 x H3 x2' so2.show'.tr hlt y
    have hdrop : ds.drop i = d :: ds.drop (i + 1) := by
      have e1 := List.drop_eq_getElem_cons hlt
      have e2 : ds[i] = d := by
        have := List.getElem?_eq_getElem hlt
        rw [this] at hd
        exact Option.some.inj hd
      rw [e1, e2]
    rw [hdrop, cLp] at ec2
    obtain ⟨δ1, t1, eg0, ec3⟩ := bd_inv ec2
    obtain ⟨eg, et⟩ := of_inv eg0
    clear eg0 ec2
    subst et
    obtain ⟨b, t2, eb, ec2⟩ := bd_inv ec3
    clear ec3
    have x13 : Ext S H1 H3 := x2.trans x3.up0
    have so3 : SrcOk (S.hide Dl) H3 t1 := so2.ext0 x3
    have hD3 : H3 Dl = some (.lst acc) := x3.lst _ _ (fun z => z) hD
    refine ⟨S.hide Dl, wipeE δ vs, d, Ld, δ1, (rs1.extS (S := S.hide Dl) x13).wipe vs, rd.hide fun a ha z => ?_, eg, fun σ2 o2 l2 rs2 => ⟨wipe_eq o2 l2, S.hide Dl, δ1, t1, b, t2, rs2, so3, eb, fun H4 x4 so4 => ?_⟩⟩
    · obtain ⟨_, xs, w⟩ := wk.la a (hLd a ha)
      rw [z, nD] at w
      cases w
    have hD4 : H4 Dl = some (.lst acc) := x4.lst _ _ nA hD3
    have ra4 : Rps (S.hide Dl) H4 acc accD L := (ra.ext0 x3).extS x4
    have x14 : Ext S H1 H4 := x13.trans x4
    cases b with
    | false =>
      rw [if_neg Bool.false_ne_true] at ec2
      refine iteF ?_
      exact ⟨rfl, hlt, acc, accD, L, t2, ys, hD4, ra4, by omega, x14, so4, ec2, eall⟩
    | true =>
      rw [if_pos rfl] at ec2
      refine iteT ?_
      obtain ⟨yD, t3, ey, ec4⟩ := bd_inv ec2
      obtain ⟨ys', t4, er, ec5⟩ := bd_inv ec4
      obtain ⟨e1, e2⟩ := ret_inv ec5
      clear ec2 ec4 ec5
      subst e1 e2
      refine ⟨S.hide Dl, δ1, t2, yD, t3, rs2.extS x4, so4, ey, fun v H5 L5 x5 so5 r5 => ?_⟩
      have hD5 : H5 Dl = some (.lst acc) := x5.lst _ _ nA hD4
      have ra5 := (ra4.extS x5).append (Rps.one r5)
      refine ⟨acc, hD5, Nat.lt_of_lt_of_le (Nat.lt_of_le_of_lt hl (Nat.lt_of_lt_of_le hlt hz)) (size_ok (Nat.le_refl _)), rfl, hlt, acc ++ [v], accD ++ [yD], _, t3, ys', upd_same, ra5.ext (HE.writeN hD5) (fun a ha z => (ra5.ne a ha).1 (.inr z)), by rw [List.length_append]; exact Nat.succ_le_succ hl, (x14.trans x5).out nD, so5.writeN nA nq, er, by rw [List.append_assoc]; exact eall⟩
  · have ei : ds.drop i = [] := List.drop_eq_nil_of_le (by omega)
    rw [ei, cLp] at ec2
    obtain ⟨e1, e2⟩ := ret_inv ec2
    subst e1 e2
    rw [List.append_nil] at eall
    subst eall
    exact .inl ⟨wk.stop i H2 x2' (by omega), q (.ref Dl) H2 (Dl :: L) (x1.trans x2) so2.show' (.lst hD (fun z => so1.tr _ z nD) ra.show')⟩
section
variable {X : Cx}
theorem d_lc {elt tg iter : Expr} {ifs : List Expr} {scope : Scope} {own : List (Str × Nat)} {pos : Pos} {h : FI} {g : D → Ev → Option Ev} {tt : Ev → M Bool} {te : FE} (hc : X.calm = true) (hN : X.N.Nodup) (hi : DI X tg iter h) (ok : BlkOk X.N X.env.scope scope own)
    (hg : ∀ (s : Shared) (H : Hp) (C : Addr) (cl : List (Str × Addr)) (fp : List Addr), DG (X.blk s H scope (compEnvC scope cl C X.env) fp) tg (own.map (·.2)) g) (ht : ∀ (s : Shared) (H : Hp) (C : Addr) (cl : List (Str × Addr)) (fp : List Addr), DTs (X.blk s H scope (compEnvC scope cl C X.env) fp) ifs tt)
    (he : ∀ (s : Shared) (H : Hp) (C : Addr) (cl : List (Str × Addr)) (fp : List Addr), DE (X.blk s H scope (compEnvC scope cl C X.env) fp) elt te) (hs : ∀ x, foldedSetIterable iter X.env x = pure x := by intro _; rfl) :
    DE X (.ListComp elt [⟨tg, iter, ifs, 0⟩] scope pos) (eLc h (own.map (·.2)) g tt te) := (pe_lc hc hN hi ok hg ht he hs).imp tLc_imp
end
end DL
set_option Elab.async false
set_option linter.all false
set_option maxRecDepth 100000
set_option maxHeartbeats 4000000
/-! DL4: new lists (DF), statements over data, defs. -/
namespace DL
open PySem PySem.Spec PyProof.Rows L2

/-! ### expressions whose lists are new -/
def tF (f : FE) : TE := fun σ H Q => ∃ S δ st d st', Rs S H σ δ ∧ SrcOk S H st ∧ f δ st = some (d, st') ∧ ∀ v H' L, Ext S H H' → SrcOk S H' st' → Rp S H' v d L → L.Nodup → (∀ a ∈ L, H a = none) → Q v H'
def tAsF (f : Ev → M (List D)) : TA := fun σ H Q => ∃ S δ st ds st', Rs S H σ δ ∧ SrcOk S H st ∧ f δ st = some (ds, st') ∧ ∀ vs H' L, Ext S H H' → SrcOk S H' st' → Rps S H' vs ds L → L.Nodup → (∀ a ∈ L, H a = none) → Q vs H'
abbrev DF (X : Cx) (e : Expr) (f : FE) : Prop := PE X e (tF f)
abbrev DAF (X : Cx) (es : List Expr) (f : Ev → M (List D)) : Prop := PA X es (tAsF f)
def eLf (f : FE) : FE := fun δ => (f δ).bd fun d => M.of (if d.lf = true then some d else none)
section
variable {X : Cx} {e : Expr} {es : List Expr} {f : FE} {fs : Ev → M (List D)} {pos : Pos}
theorem df_de (h : DF X e f) : DE X e f := h.imp fun σ H Q ⟨S, δ, st, d, st', rs, so, e, q⟩ => ⟨S, δ, st, d, st', rs, so, e, fun v H' L x so' r _ _ => q v H' L x so' r⟩
theorem df_lf (h : DE X e f) : DF X e (eLf f) := h.imp fun σ H Q ⟨S, δ, st, d, st', rs, so, e, q⟩ => by
  obtain ⟨x, s1, ea, e1⟩ := bd_inv e
  obtain ⟨eo, es⟩ := of_inv e1
  clear e1
  subst es
  by_cases hl : x.lf = true
  · rw [if_pos hl] at eo
    cases eo
    exact ⟨S, δ, st, _, _, rs, so, ea, fun v H' L x1 so1 r => q v H' L x1 so1 r (by rw [r.nil hl]; exact List.nodup_nil) (by rw [r.nil hl]; exact fun _ z => nomatch z)⟩
  · rw [if_neg hl] at eo; cases eo
theorem daf_nil : DAF X [] eAs0 := pa_nil.imp fun σ H Q ⟨S, δ, st, ds, st', rs, so, e, w⟩ => by
  obtain ⟨e1, e2⟩ := ret_inv e
  subst e1 e2
  exact w [] H [] HE.refl so .nil List.nodup_nil fun _ z => nomatch z
theorem daf_cons (ha : DF X e f) (hr : DAF X es fs) (hs : starEach (e :: es) X.env = (false, eval e X.env) :: starEach es X.env := by rfl) : DAF X (e :: es) (eAs f fs) := (pa_cons ha hr hs).imp fun σ H Q ⟨S, δ, st, ds, st', rs, so, e, w⟩ => by
  obtain ⟨x, s1, ea, e⟩ := bd_inv e
  obtain ⟨y, s2, eb, e⟩ := bd_inv e
  obtain ⟨e1, e2⟩ := ret_inv e
  subst e1 e2
  refine ⟨S, δ, st, x, s1, rs, so, ea, fun v H1 L1 x1 so1 r1 n1 f1 => ⟨S, δ, s1, y, _, rs.extS x1, so1, eb, fun vs H2 L2 x2 so2 r2 n2 f2 => w (v :: vs) H2 _ (x1.trans x2) so2 (.cons (r1.extS x2) r2) ?_ fun a ha => (List.mem_append.mp ha).elim (f1 a) fun z => x1.new a (f2 a z)⟩⟩
  refine List.nodup_append.mpr ⟨n1, n2, fun a ha b hb z => ?_⟩
  obtain ⟨_, xs, q⟩ := r1.ne a ha
  rw [z, f2 b hb] at q
  cases q
theorem df_lst (h : DAF X es fs) : DF X (.List es pos) (eLst fs) := (pe_lst h).imp fun σ H Q ⟨S, δ, st, d, st', rs, so, e, w⟩ => by
  obtain ⟨ds, s1, ea, e⟩ := bd_inv e
  obtain ⟨eo, es'⟩ := of_inv e
  subst es'
  by_cases hz : ds.length ≤ 1000000
  · rw [if_pos hz] at eo
    cases eo
    refine ⟨S, δ, st, ds, _, rs, so, ea, fun vs H1 L1 x1 so1 r1 n1 f1 => ⟨size_ok (by rw [r1.len]; exact hz), fun p np => ?_⟩⟩
    have he : HE0 H1 (upd H1 p (.lst vs)) := HE.fresh np
    refine w (.ref p) _ (p :: L1) (x1.trans he.up0) (so1.ext0 he) (.lst upd_same (fun z => so1.tr _ z np) (r1.ext0 he)) (List.nodup_cons.mpr ⟨fun hp => ?_, n1⟩) fun a ha => ?_
    · obtain ⟨_, xs, q⟩ := r1.ne p hp
      rw [np] at q
      cases q
    · rcases List.mem_cons.mp ha with rfl | ha
      · exact x1.new _ np
      · exact f1 a ha
  · rw [if_neg hz] at eo; cases eo
/-- [x] * k: the new list -/
theorem df_rep {a b : Expr} {g : FE} (ha : DE X a f) (hb : DE X b g) : DF X (.BinOp a .Mult b pos) (fun δ => (f δ).bd fun x => (g δ).bd fun y => M.of (match x, y with | .lst xs, .int k => dMul (.lst xs) (.int k) | _, _ => none)) :=
  (pe_op op_rep ha hb).imp fun σ H Q ⟨S, δ, st, d, st', rs, so, e, q⟩ => by
  obtain ⟨x, s1, ea, e⟩ := bd_inv e
  obtain ⟨y, s2, eb, e⟩ := bd_inv e
  obtain ⟨eo, es⟩ := of_inv e
  clear e
  subst es
  refine ⟨S, δ, st, x, s1, rs, so, ea, fun v H1 L1 x1 so1 r1 => ⟨S, δ, s1, y, _, rs.extS x1, so1, eb, fun w H2 L2 x2 so2 r2 => ?_⟩⟩
  match x, y, eo with
  | .lst xs, .int k, eo =>
    have eo : (if -1000 ≤ k ∧ k ≤ 1000 ∧ xs.length ≤ 1000 ∧ lfs xs = true then some (D.lst (List.replicate k.toNat xs).flatten) else none) = some d := eo
    obtain ⟨a, vs, L1', rfl, ea', na, rsa, rfl⟩ := (r1.extS x2).ilst
    obtain ⟨rfl, rfl⟩ := r2.iint
    by_cases h : -1000 ≤ k ∧ k ≤ 1000 ∧ xs.length ≤ 1000 ∧ lfs xs = true
    · rw [if_pos h] at eo
      cases eo
      have hl := rsa.len
      have hL := rsa.nils h.2.2.2
      subst hL
      refine ⟨_, k, _, rfl, rfl, ea', by omega, by omega, ?_, fun p np => ?_⟩
      · have h2 : vs.length * k.toNat ≤ 1000 * 1000 := Nat.mul_le_mul (by omega) (by omega)
        exact size_ok h2
      · exact q _ _ [p] (x1.trans (x2.trans (HE.fresh np))) (so2.ext0 (HE.fresh np)) (.lst upd_same (fun z => so2.tr _ z np) ((rsa.repl k.toNat).ext0 (HE.fresh np))) (by simp) fun b hb => by
          have : b = p := by simpa using hb
          exact this ▸ x1.new _ (x2.new _ np)
    · rw [if_neg h] at eo; cases eo
/-- list(e) of things without lists -/
def bListF : List D → Option D
  | [d] => d.items.bind fun xs => if lfs xs = true then some (.lst xs) else none
  | _ => none
theorem df_list {x : Str} {p pos : Pos} (hg : Gl X x) (hm : X.mg x = none) (hv : bootBuiltins x = some (.type "list")) (ha : DA X (e :: es) fs)
    (hn : x ≠ "__name__" := by decide) (hdb : (x == ("__debug__" : Str)) = false := by decide) (he : starEach (e :: es) X.env = (false, eval e X.env) :: starEach es X.env := by rfl) (hpl : (backTo pos (starEach es X.env)).any (·.1) = false := by rfl) :
    DF X (.Call (.Name x p) (e :: es) [] pos) (eCall bListF fs) := (pe_callTy call_list_of hg hm hv ha hn hdb he hpl).imp fun σ H Q ⟨S, δ, st, d, st', rs, so, e, q⟩ => by
  obtain ⟨xs, s1, ea, e⟩ := bd_inv e
  obtain ⟨eo, es⟩ := of_inv e
  clear e
  subst es
  refine ⟨S, δ, st, xs, _, rs, so, ea, fun vs H1 L1 x1 so1 r1 => ?_⟩
  match xs, eo with
  | [a], eo =>
    obtain ⟨v, rfl, r⟩ := r1.i1
    obtain ⟨ys, e1, e2⟩ := Option.bind_eq_some_iff.mp (show (a.items.bind fun xs => if lfs xs = true then some (D.lst xs) else none) = some d from eo)
    obtain ⟨p, vs, L', rfl, ho, rs'⟩ := r.items e1
    by_cases hl : lfs ys = true
    · rw [if_pos hl] at e2
      cases e2
      have hL := rs'.nils hl
      subst hL
      exact ⟨p, vs, rfl, ho.elim (fun z => .inl (.inl z)) fun z => .inr (.inl z), fun l nl => q _ _ [l] (x1.trans (HE.fresh nl)) (so1.ext0 (HE.fresh nl)) (.lst upd_same (fun z => so1.tr _ z nl) (rs'.ext0 (HE.fresh nl))) (by simp) fun b hb => by
        have : b = l := by simpa using hb
        exact this ▸ x1.new _ nl⟩
    · rw [if_neg hl] at e2; cases e2
end
theorem tLcF_imp {h : FI} {vs : List Nat} {g : D → Ev → Option Ev} {tt : Ev → M Bool} {te : FE} : ∀ σ H Q, tF (eLc h vs g tt te) σ H Q → tLc (tI h) (tGd vs g) (tBo tt) (tF te) vs σ H Q := fun σ H Q ⟨S, δ, st, d, st', rs, so, e, q⟩ => by
  obtain ⟨ds, s1, eh, e⟩ := bd_inv e
  by_cases hz : ds.length ≤ 1000000
  rotate_left
  · rw [if_neg hz] at e; cases e
  rw [if_pos hz] at e
  obtain ⟨all, s2, ec, e⟩ := bd_inv e
  obtain ⟨e1, e2⟩ := ret_inv e
  subst e1 e2
  refine ⟨S, δ, st, ds, s1, rs, so, eh, fun J H1 La x1 so1 wk Dl nD => ?_⟩
  have nA : Dl ≠ S.dA := fun z => so1.tr _ S.hA (z ▸ nD)
  have nq : Dl ≠ S.q := fun z => so1.tr _ S.hQ (z ▸ nD)
  have rs1 : Rs (S.hide Dl) H1 σ δ := (rs.extS x1).hide fun xs z => by rw [nD] at z; cases z
  have laA : ∀ b, b = S.dA → b ∉ La := fun b e hb => (wk.la b hb).1 (e ▸ S.hA)
  refine ⟨fun i m H => m = ds.length - i ∧ i ≤ ds.length ∧ ∃ acc accD L sti ys, H Dl = some (.lst acc) ∧ Rps (S.hide Dl) H acc accD L ∧ L.Nodup ∧ (∀ a ∈ L, H1 a = none) ∧ acc.length ≤ i ∧ Ext S H1 H ∧ SrcOk (S.hide Dl) H sti ∧ cLp vs g tt te δ (ds.drop i) sti = some (ys, st') ∧ accD ++ ys = all, ⟨ds.length, rfl, Nat.zero_le _, [], [], [], s1, all, upd_same, .nil, List.nodup_nil, (fun _ z => nomatch z), Nat.zero_le _, HE.refl.out nD, (so1.ext0 (HE.fresh nD)).hide (by rw [upd_same]; exact fun z => nomatch z), ec, rfl⟩, ?_⟩
  rintro i m H2 ⟨rfl, hi, acc, accD, L, sti, ys, hD, ra, nL, fL, hl, x2, so2, ec2, eall⟩
  have x2' : HE (fun b => b ∉ La) H1 H2 := x2.mono laA
  by_cases hlt : i < ds.length
  · refine .inr ⟨wk.go i H2 x2' hlt, fun H' => (fun i m H => m = ds.length - i ∧ i ≤ ds.length ∧ ∃ acc accD L sti ys, H Dl = some (.lst acc) ∧ Rps (S.hide Dl) H acc accD L ∧ L.Nodup ∧ (∀ a ∈ L, H1 a = none) ∧ acc.length ≤ i ∧ Ext S H1 H ∧ SrcOk (S.hide Dl) H sti ∧ cLp vs g tt te δ (ds.drop i) sti = some (ys, st') ∧ accD ++ ys = all) (i + 1) (ds.length - (i + 1)) H', fun H' hN => ⟨ds.length - (i + 1), by omega, hN⟩, fun x H3 y => ?_⟩
    obtain ⟨d, Ld, hd, x3, rd, hLd⟩ := wk.yld i H2 x H3 x2' so2.show'.tr hlt y
    have hdrop : ds.drop i = d :: ds.drop (i + 1) := by
      have e1 := List.drop_eq_getElem_cons hlt
      have e2 : ds[i] = d := by
        have := List.getElem?_eq_getElem hlt
        rw [this] at hd
        exact Option.some.inj hd
      rw [e1, e2]
    rw [hdrop, cLp] at ec2
    obtain ⟨δ1, t1, eg0, ec3⟩ := bd_inv ec2
    obtain ⟨eg, et⟩ := of_inv eg0
    clear eg0 ec2
    subst et
    obtain ⟨b, t2, eb, ec2⟩ := bd_inv ec3
    clear ec3
    have x13 : Ext S H1 H3 := x2.trans x3.up0
    have so3 : SrcOk (S.hide Dl) H3 t1 := so2.ext0 x3
    have hD3 : H3 Dl = some (.lst acc) := x3.lst _ _ (fun z => z) hD
    refine ⟨S.hide Dl, wipeE δ vs, d, Ld, δ1, (rs1.extS (S := S.hide Dl) x13).wipe vs, rd.hide fun a ha z => ?_, eg, fun σ2 o2 l2 rs2 => ⟨wipe_eq o2 l2, S.hide Dl, δ1, t1, b, t2, rs2, so3, eb, fun H4 x4 so4 => ?_⟩⟩
    · obtain ⟨_, xs, w⟩ := wk.la a (hLd a ha)
      rw [z, nD] at w
      cases w
    have hD4 : H4 Dl = some (.lst acc) := x4.lst _ _ nA hD3
    have ra4 : Rps (S.hide Dl) H4 acc accD L := (ra.ext0 x3).extS x4
    have x14 : Ext S H1 H4 := x13.trans x4
    cases b with
    | false =>
      rw [if_neg Bool.false_ne_true] at ec2
      refine iteF ?_
      exact ⟨rfl, hlt, acc, accD, L, t2, ys, hD4, ra4, nL, fL, by omega, x14, so4, ec2, eall⟩
    | true =>
      rw [if_pos rfl] at ec2
      refine iteT ?_
      obtain ⟨yD, t3, ey, ec4⟩ := bd_inv ec2
      obtain ⟨ys', t4, er, ec5⟩ := bd_inv ec4
      obtain ⟨e1, e2⟩ := ret_inv ec5
      clear ec2 ec4 ec5
      subst e1 e2
      refine ⟨S.hide Dl, δ1, t2, yD, t3, rs2.extS x4, so4, ey, fun v H5 L5 x5 so5 r5 n5 f5 => ?_⟩
      have hD5 : H5 Dl = some (.lst acc) := x5.lst _ _ nA hD4
      have ra5 := (ra4.extS x5).append (Rps.one r5)
      refine ⟨acc, hD5, Nat.lt_of_lt_of_le (Nat.lt_of_le_of_lt hl (Nat.lt_of_lt_of_le hlt hz)) (size_ok (Nat.le_refl _)), rfl, hlt, acc ++ [v], accD ++ [yD], _, t3, ys', upd_same, ra5.ext (HE.writeN hD5) (fun a ha z => (ra5.ne a ha).1 (.inr z)), ?_, fun a ha => (List.mem_append.mp ha).elim (fL a) fun z => x14.new a (f5 a z), by rw [List.length_append]; exact Nat.succ_le_succ hl, (x14.trans x5).out nD, so5.writeN nA nq, er, by rw [List.append_assoc]; exact eall⟩
      refine List.nodup_append.mpr ⟨nL, n5, fun a ha b hb z => ?_⟩
      obtain ⟨_, xs, w⟩ := ra4.ne a ha
      rw [z, f5 b hb] at w
      cases w
  · have ei : ds.drop i = [] := List.drop_eq_nil_of_le (by omega)
    rw [ei, cLp] at ec2
    obtain ⟨e1, e2⟩ := ret_inv ec2
    subst e1 e2
    rw [List.append_nil] at eall
    subst eall
    refine .inl ⟨wk.stop i H2 x2' (by omega), q (.ref Dl) H2 (Dl :: L) (x1.trans x2) so2.show' (.lst hD (fun z => so1.tr _ z nD) ra.show') (List.nodup_cons.mpr ⟨fun z => (ra.ne Dl z).1 (.inr rfl), nL⟩) fun a ha => ?_⟩
    rcases List.mem_cons.mp ha with rfl | ha
    · exact x1.new _ nD
    · exact x1.new _ (fL a ha)
section
variable {X : Cx}
theorem df_lc {elt tg iter : Expr} {ifs : List Expr} {scope : Scope} {own : List (Str × Nat)} {pos : Pos} {h : FI} {g : D → Ev → Option Ev} {tt : Ev → M Bool} {te : FE} (hc : X.calm = true) (hN : X.N.Nodup) (hi : DI X tg iter h) (ok : BlkOk X.N X.env.scope scope own)
    (hg : ∀ (s : Shared) (H : Hp) (C : Addr) (cl : List (Str × Addr)) (fp : List Addr), DG (X.blk s H scope (compEnvC scope cl C X.env) fp) tg (own.map (·.2)) g) (ht : ∀ (s : Shared) (H : Hp) (C : Addr) (cl : List (Str × Addr)) (fp : List Addr), DTs (X.blk s H scope (compEnvC scope cl C X.env) fp) ifs tt)
    (he : ∀ (s : Shared) (H : Hp) (C : Addr) (cl : List (Str × Addr)) (fp : List Addr), DF (X.blk s H scope (compEnvC scope cl C X.env) fp) elt te) (hs : ∀ x, foldedSetIterable iter X.env x = pure x := by intro _; rfl) :
    DF X (.ListComp elt [⟨tg, iter, ifs, 0⟩] scope pos) (eLc h (own.map (·.2)) g tt te) := (pe_lc hc hN hi ok hg ht he hs).imp tLcF_imp
end

/-! ### statements -/
structure RS (S : Sr) (W : Addr → Prop) (H0 H : Hp) (σ : L2.St) (δ : Ev) : Prop where
  len : σ.length = δ.length
  he : HE W H0 H
  wA : W S.dA
  wn : ∀ b, H0 b = none → W b
  sl : ∃ Λ : Nat → List Addr, (∀ i d, gt δ i = some d → ∃ v, σ[i]? = some (some v) ∧ Rp S H v d (Λ i)) ∧
    ∀ i d, δ[i]? = some (.ow d) → (Λ i).Nodup ∧ ∀ a ∈ Λ i, W a ∧ ∀ j e, j ≠ i → gt δ j = some e → a ∉ Λ j
section
variable {S : Sr} {W : Addr → Prop} {H0 H H' : Hp} {σ : L2.St} {δ : Ev}
theorem RS.rs (r : RS S W H0 H σ δ) : Rs S H σ δ := ⟨r.len, fun i d e => by
  obtain ⟨Λ, h, _⟩ := r.sl
  obtain ⟨v, h1, h2⟩ := h i d e
  exact ⟨v, _, h1, h2⟩⟩
theorem RS.ext (r : RS S W H0 H σ δ) (x : Ext S H H') : RS S W H0 H' σ δ := ⟨r.len, r.he.trans (x.mono fun b e => e ▸ r.wA), r.wA, r.wn, by
  obtain ⟨Λ, h, h2⟩ := r.sl
  exact ⟨Λ, fun i d e => by
    obtain ⟨v, a, b⟩ := h i d e
    exact ⟨v, a, b.extS x⟩, h2⟩⟩
def upN (Λ : Nat → List Addr) (i : Nat) (L : List Addr) : Nat → List Addr := fun j => if j = i then L else Λ j
theorem upN_same {Λ : Nat → List Addr} {i : Nat} {L : List Addr} : upN Λ i L i = L := if_pos rfl
theorem upN_ne {Λ : Nat → List Addr} {i j : Nat} {L : List Addr} (h : j ≠ i) : upN Λ i L j = Λ j := if_neg h
theorem gt_ow {i : Nat} {d : D} (h : δ[i]? = some (.ow d)) : gt δ i = some d := by unfold gt; rw [h]; rfl
theorem set_ow {i j : Nat} {s : Sl} {d : D} (h : (δ.set i s)[j]? = some (.ow d)) : (j = i ∧ s = .ow d) ∨ (j ≠ i ∧ δ[j]? = some (.ow d)) := by
  by_cases e : i = j
  · subst e
    by_cases hi : i < δ.length
    · rw [List.getElem?_set_self hi] at h; exact .inl ⟨rfl, Option.some.inj h⟩
    · rw [List.getElem?_eq_none (by simpa using hi)] at h; cases h
  · rw [List.getElem?_set_ne e] at h
    exact .inr ⟨Ne.symm e, h⟩
theorem RS.put {i : Nat} {v : V} {s : Sl} (r : RS S W H0 H σ δ) {L : List Addr} (hv : ∀ d, s.d = some d → Rp S H v d L)
    (h1 : ∀ d, s = .ow d → L.Nodup ∧ (∀ a ∈ L, W a)) (h2 : ∀ j e u L', gt δ j = some e → σ[j]? = some (some u) → Rp S H u e L' → ∀ a ∈ L', a ∉ L) :
    RS S W H0 H (σ.set i (some v)) (δ.set i s) := ⟨by simp [r.len], r.he, r.wA, r.wn, by
  obtain ⟨Λ, h, h3⟩ := r.sl
  have ap : ∀ j e, gt δ j = some e → ∀ a ∈ Λ j, a ∉ L := fun j e hg => by
    obtain ⟨u, a, b⟩ := h j e hg
    exact h2 j e u _ hg a b
  refine ⟨upN Λ i L, fun j d e => ?_, fun j d e => ?_⟩
  · rw [gt_set] at e
    by_cases hij : i = j
    · subst hij
      rw [if_pos rfl] at e
      by_cases hi : i < δ.length
      · rw [if_pos hi] at e
        rw [upN_same]
        exact ⟨v, by rw [List.getElem?_set_self (by rw [r.len]; exact hi)], hv d e⟩
      · rw [if_neg hi] at e; cases e
    · rw [if_neg hij] at e
      rw [upN_ne (Ne.symm hij)]
      obtain ⟨w, a, b⟩ := h j d e
      exact ⟨w, by rw [List.getElem?_set_ne hij]; exact a, b⟩
  · rcases set_ow e with ⟨rfl, es⟩ | ⟨hj, e⟩
    · rw [upN_same]
      obtain ⟨n, w⟩ := h1 d es
      refine ⟨n, fun a ha => ⟨w a ha, fun k e' hk hg => ?_⟩⟩
      rw [upN_ne hk]
      rw [gt_set, if_neg (Ne.symm hk)] at hg
      exact fun z => ap k e' hg a z ha
    · rw [upN_ne hj]
      obtain ⟨n, w⟩ := h3 j d e
      refine ⟨n, fun a ha => ⟨(w a ha).1, fun k e' hk hg => ?_⟩⟩
      by_cases hki : k = i
      · rw [hki, upN_same]
        exact ap j d (gt_ow e) a ha
      · rw [upN_ne hki]
        rw [gt_set, if_neg (Ne.symm hki)] at hg
        exact (w a ha).2 k e' hk hg⟩
theorem RS.put_lf {i : Nat} {v : V} {d : D} (r : RS S W H0 H σ δ) (hv : Rp S H v d []) : RS S W H0 H (σ.set i (some v)) (δ.set i (.rd d)) :=
  r.put (L := []) (fun d' e => by cases e; exact hv) (fun _ z => nomatch z) fun _ _ _ _ _ _ _ _ _ z => nomatch z
mutual
theorem Rp.uniq {v : V} {d : D} {L L' : List Addr} (r : Rp S H v d L) (r' : Rp S H v d L') : L = L' := by
  cases r with
  | non => cases r'; rfl
  | bl => cases r'; rfl
  | int => cases r'; rfl
  | str => cases r'; rfl
  | src => cases r'; rfl
  | dct => cases r'; rfl
  | tup h rs =>
    cases r' with
    | tup h' rs' =>
      rw [h] at h'
      cases h'
      exact rs.uniq rs'
  | tupk h _ rs =>
    cases r' with
    | tupk h' _ rs' =>
      rw [h] at h'
      cases h'
      exact rs.uniq rs'
  | lst h n rs =>
    cases r' with
    | lst h' n' rs' =>
      rw [h] at h'
      cases h'
      rw [rs.uniq rs']
theorem Rps.uniq {vs : List V} {ds : List D} {L L' : List Addr} (r : Rps S H vs ds L) (r' : Rps S H vs ds L') : L = L' := by
  cases r with
  | nil => cases r'; rfl
  | cons r rs =>
    cases r' with
    | cons r' rs' => rw [r.uniq r', rs.uniq rs']
end
theorem RS.put_new {i : Nat} {v : V} {d : D} {L : List Addr} (r : RS S W H0 H σ δ) (x : Ext S H H') (hv : Rp S H' v d L) (n : L.Nodup) (f : ∀ a ∈ L, H a = none) : RS S W H0 H' (σ.set i (some v)) (δ.set i (.ow d)) :=
  (r.ext x).put (fun d' e => by cases e; exact hv) (fun d' e => ⟨n, fun a ha => r.wn a (r.he.new a (f a ha))⟩) fun j e u L' hg hu hr a ha hL => by
    obtain ⟨Λ, h', _⟩ := r.sl
    obtain ⟨v2, e2, r2⟩ := h' j e hg
    rw [hu] at e2
    cases e2
    have := hr.uniq (r2.extS x)
    subst this
    obtain ⟨_, xs, q⟩ := r2.ne a ha
    rw [f a hL] at q
    cases q
/-- the owned list at slot i is changed -/
theorem RS.wr {i : Nat} {ds ds' : List D} {a : Addr} {vs vs' : List V} {L L' : List Addr} (r : RS S W H0 H σ δ) (hi : δ[i]? = some (.ow (.lst ds))) (ha : σ[i]? = some (some (.ref a))) (hH : H a = some (.lst vs)) (hr : Rps S H vs ds L)
    (hn : Rps S (upd H a (.lst vs')) vs' ds' L') (nd : L'.Nodup) (sub : ∀ b ∈ L', b ∈ L) (hn' : a ∉ L') : RS S W H0 (upd H a (.lst vs')) σ (δ.set i (.ow (.lst ds'))) := by
  obtain ⟨Λ, h, h2⟩ := r.sl
  obtain ⟨v, e1, rp⟩ := h i _ (gt_ow hi)
  rw [ha] at e1
  cases e1
  obtain ⟨a', vs1, L1, e2, h3, nh, rs1, eL⟩ := rp.ilst
  cases e2
  rw [hH] at h3
  cases h3
  have eL1 := rs1.uniq hr
  subst eL1
  obtain ⟨ndi, hw⟩ := h2 i _ hi
  rw [eL] at ndi hw
  have wa : W a := (hw a List.mem_cons_self).1
  have ilt : i < δ.length := gt_lt (gt_ow hi)
  refine ⟨by simp [r.len], r.he.trans (HE.write hH wa), r.wA, r.wn, upN Λ i (a :: L'), fun j d e => ?_, fun j d e => ?_⟩
  · rw [gt_set] at e
    by_cases hij : i = j
    · subst hij
      rw [if_pos rfl, if_pos ilt] at e
      cases e
      rw [upN_same]
      exact ⟨_, ha, .lst upd_same nh hn⟩
    · rw [if_neg hij] at e
      rw [upN_ne (Ne.symm hij)]
      obtain ⟨w, e1, e2⟩ := h j d e
      exact ⟨w, e1, e2.ext (HE.writeN hH) fun b hb z => (hw a List.mem_cons_self).2 j d (Ne.symm hij) e (z ▸ hb)⟩
  · have inL : ∀ b ∈ a :: L', b ∈ a :: L1 := fun b hb => (List.mem_cons.mp hb).elim (fun z => z ▸ List.mem_cons_self) fun z => List.mem_cons_of_mem _ (sub b z)
    rcases set_ow e with ⟨rfl, es⟩ | ⟨hj, e⟩
    · rw [upN_same]
      refine ⟨List.nodup_cons.mpr ⟨hn', nd⟩, fun b hb => ⟨(hw b (inL b hb)).1, fun k e' hk hg => ?_⟩⟩
      rw [upN_ne hk]
      rw [gt_set, if_neg (Ne.symm hk)] at hg
      exact (hw b (inL b hb)).2 k e' hk hg
    · rw [upN_ne hj]
      obtain ⟨n, w⟩ := h2 j d e
      refine ⟨n, fun b hb => ⟨(w b hb).1, fun k e' hk hg => ?_⟩⟩
      by_cases hki : k = i
      · subst hki
        rw [upN_same]
        intro z
        have := inL b z
        rw [← eL] at this
        exact (w b hb).2 k _ hk (gt_ow hi) this
      · rw [upN_ne hki]
        rw [gt_set, if_neg (Ne.symm hki)] at hg
        exact (w b hb).2 k e' hk hg
/-- the owned list at slot i with its address -/
theorem RS.own {i : Nat} {ds : List D} (r : RS S W H0 H σ δ) (hi : δ[i]? = some (.ow (.lst ds))) : ∃ a vs L, σ[i]? = some (some (.ref a)) ∧ H a = some (.lst vs) ∧ ¬ S.hid a ∧ Rps S H vs ds L ∧ (a :: L).Nodup := by
  obtain ⟨Λ, h, h2⟩ := r.sl
  obtain ⟨v, e1, rp⟩ := h i _ (gt_ow hi)
  obtain ⟨a', vs1, L1, e2, h3, nh, rs1, eL⟩ := rp.ilst
  subst e2
  refine ⟨a', vs1, L1, e1, h3, nh, rs1, ?_⟩
  rw [← eL]
  exact (h2 i _ hi).1
theorem SrcOk.wr {st : Src} {a : Addr} {vs : List V} (h : SrcOk S H st) (n : ¬ S.hid a) : SrcOk S (upd H a (.lst vs)) st := by
  have ne : ∀ b, S.hid b → b ≠ a := fun b hb z => n (z ▸ hb)
  refine ⟨h.ne, (upd_ne (ne _ S.hA)).trans h.at_, (upd_ne (ne _ S.hQ)).trans h.cp, fun b hb => ?_⟩
  rw [upd_ne (ne b hb)]
  exact h.tr b hb
end

/-! ### judgements of statements -/
inductive Out where
  | nx (δ : Ev) | rt (d : D) | bk (δ : Ev) | ct (δ : Ev)
abbrev FS := Ev → M Out
def Post (S : Sr) (W : Addr → Prop) (H0 : Hp) (st : Src) (D' : Ends) : Out → Prop
  | .nx δ => ∀ σ' H', RS S W H0 H' σ' δ → SrcOk S H' st → D'.nx σ' H'
  | .rt d => ∀ v H' L, HE W H0 H' → SrcOk S H' st → Rp S H' v d L → D'.rt v H'
  | .bk δ => ∀ σ' H', RS S W H0 H' σ' δ → SrcOk S H' st → D'.bk σ' H'
  | .ct δ => ∀ σ' H', RS S W H0 H' σ' δ → SrcOk S H' st → D'.ct σ' H'
def tS (g : FS) : TS := fun D' σ H => ∃ S W H0 δ st o st', RS S W H0 H σ δ ∧ SrcOk S H st ∧ g δ st = some (o, st') ∧ Post S W H0 st' D' o
abbrev DS (X : Cx) (s : Stmt) (g : FS) : Prop := PS X s (tS g)
abbrev DSs (X : Cx) (s : List Stmt) (g : FS) : Prop := PSs X s (tS g)
def sNil : FS := fun δ => M.ret (.nx δ)
def sSeq (g1 g2 : FS) : FS := fun δ => (g1 δ).bd fun o => match o with | .nx δ1 => g2 δ1 | o => M.ret o
def sExp (f : FE) : FS := fun δ => (f δ).bd fun _ => M.ret (.nx δ)
def sSet (i : Nat) (f : FE) : FS := fun δ => (f δ).bd fun d => if d.lf = true then M.ret (.nx (δ.set i (.rd d))) else M.no
def sOwn (i : Nat) (f : FE) : FS := fun δ => (f δ).bd fun d => M.ret (.nx (δ.set i (.ow d)))
def noOw (δ : Ev) : Bool := δ.all fun s => match s with | .ow _ => false | _ => true
def sSetA (i : Nat) (f : FE) : FS := fun δ => (f δ).bd fun d => if noOw δ = true then M.ret (.nx (δ.set i (.rd d))) else M.no
def sRet (f : FE) : FS := fun δ => (f δ).bd fun d => M.ret (.rt d)
def sRetN : FS := fun _ => M.ret (.rt .non)
def sIf (c : Ev → M Bool) (a b : FS) : FS := fun δ => (c δ).bd fun k => if k = true then a δ else b δ
def sNo : FS := fun _ => M.no
def sBk : FS := fun δ => M.ret (.bk δ)
def sCt : FS := fun δ => M.ret (.ct δ)
section
variable {X : Cx} {s : Stmt} {ss : List Stmt} {e : Expr} {f : FE} {g g' : FS} {pos : Pos}
theorem ds_nil : DSs X [] sNil := pss_nil.imp fun σ H Q ⟨S, W, H0, δ, st, o, st', rs, so, e, q⟩ => by
  obtain ⟨e1, e2⟩ := ret_inv e
  subst e1 e2
  exact q σ H rs so
theorem tSeq_imp : ∀ σ H Q, tS (sSeq g g') Q σ H → tSeq (tS g) (tS g') Q σ H := fun σ H Q ⟨S, W, H0, δ, st, o, st', rs, so, e, q⟩ => by
  obtain ⟨o1, s1, e1, e2⟩ := bd_inv e
  refine ⟨S, W, H0, δ, st, o1, s1, rs, so, e1, ?_⟩
  cases o1 with
  | nx δ1 => exact fun σ' H' rs' so' => ⟨S, W, H0, δ1, s1, o, st', rs', so', e2, q⟩
  | rt d => obtain ⟨e3, e4⟩ := ret_inv e2; subst e3 e4; exact q
  | bk d => obtain ⟨e3, e4⟩ := ret_inv e2; subst e3 e4; exact q
  | ct d => obtain ⟨e3, e4⟩ := ret_inv e2; subst e3 e4; exact q
theorem ds_cons (h1 : DS X s g) (h2 : DSs X ss g') : DSs X (s :: ss) (sSeq g g') := (pss_cons h1 h2).imp tSeq_imp
theorem ds_one (h : DS X s g) : DSs X [s] g := pss_one h
theorem ds_exp (he : DE X e f) (hs : swapsWith e none pos.line X.env = pure false := by rfl) : DS X (.Expr e pos) (sExp f) := (ps_expr he hs).imp fun σ H Q ⟨S, W, H0, δ, st, o, st', rs, so, e, q⟩ => by
  obtain ⟨d, s1, ea, e⟩ := bd_inv e
  obtain ⟨e1, e2⟩ := ret_inv e
  subst e1 e2
  exact ⟨S, δ, st, d, _, rs.rs, so, ea, fun v H1 L x1 so1 r => q σ H1 (rs.ext x1) so1⟩
theorem ds_doc {x j pos pos'} : DS X (.Expr (.Constant (.str x) j pos) pos') sNil := ps_doc.imp fun σ H Q ⟨S, W, H0, δ, st, o, st', rs, so, e, q⟩ => by
  obtain ⟨e1, e2⟩ := ret_inv e
  subst e1 e2
  exact q σ H rs so
theorem ds_pass : DS X (.Pass pos) sNil := ps_pass.imp fun σ H Q ⟨S, W, H0, δ, st, o, st', rs, so, e, q⟩ => by
  obtain ⟨e1, e2⟩ := ret_inv e
  subst e1 e2
  exact q σ H rs so
theorem set_imp {i : Nat} : ∀ σ H Q, tS (sSet i f) Q σ H → tAsg (tD f) (gName i) Q σ H := fun σ H Q ⟨S, W, H0, δ, st, o, st', rs, so, e, q⟩ => by
  obtain ⟨d, s1, ea, e⟩ := bd_inv e
  by_cases hl : d.lf = true
  · rw [if_pos hl] at e
    obtain ⟨e1, e2⟩ := ret_inv e
    subst e1 e2
    refine ⟨S, δ, st, d, _, rs.rs, so, ea, fun v H1 L x1 so1 r => q _ H1 ?_ so1⟩
    have hL := r.nil hl
    subst hL
    exact (rs.ext x1).put_lf r
  · rw [if_neg hl] at e; cases e
theorem setA_imp {i : Nat} : ∀ σ H Q, tS (sSetA i f) Q σ H → tAsg (tD f) (gName i) Q σ H := fun σ H Q ⟨S, W, H0, δ, st, o, st', rs, so, e, q⟩ => by
  obtain ⟨d, s1, ea, e⟩ := bd_inv e
  by_cases hl : noOw δ = true
  · rw [if_pos hl] at e
    obtain ⟨e1, e2⟩ := ret_inv e
    subst e1 e2
    refine ⟨S, δ, st, d, _, rs.rs, so, ea, fun v H1 L x1 so1 r => q _ H1 ?_ so1⟩
    have r1 := rs.ext x1
    refine ⟨by simp [r1.len], r1.he, r1.wA, r1.wn, ?_⟩
    obtain ⟨Λ, h, _⟩ := r1.sl
    refine ⟨upN Λ i L, fun j d' e => ?_, fun j d' e => ?_⟩
    · rw [gt_set] at e
      by_cases hij : i = j
      · subst hij
        rw [if_pos rfl] at e
        by_cases hi : i < δ.length
        · rw [if_pos hi] at e
          cases e
          rw [upN_same]
          exact ⟨v, by rw [List.getElem?_set_self (by rw [r1.len]; exact hi)], r⟩
        · rw [if_neg hi] at e; cases e
      · rw [if_neg hij] at e
        rw [upN_ne (Ne.symm hij)]
        obtain ⟨w, a, b⟩ := h j d' e
        exact ⟨w, by rw [List.getElem?_set_ne hij]; exact a, b⟩
    · rcases set_ow e with ⟨_, z⟩ | ⟨_, e⟩
      · cases z
      · exact absurd (List.all_eq_true.mp hl _ (List.mem_of_getElem? e)) Bool.false_ne_true
  · rw [if_neg hl] at e; cases e
theorem own_imp {i : Nat} : ∀ σ H Q, tS (sOwn i f) Q σ H → tAsg (tF f) (gName i) Q σ H := fun σ H Q ⟨S, W, H0, δ, st, o, st', rs, so, e, q⟩ => by
  obtain ⟨d, s1, ea, e⟩ := bd_inv e
  obtain ⟨e1, e2⟩ := ret_inv e
  subst e1 e2
  exact ⟨S, δ, st, d, _, rs.rs, so, ea, fun v H1 L x1 so1 r n fr => q _ H1 (rs.put_new x1 r n fr) so1⟩
section
variable {i : Nat} {x : Str} {pos' : Pos} (hN : X.N.Nodup) (hi : X.N[i]? = some x) (hx : Loc X.env.scope x)
include hN hi hx
theorem ds_set (he : DE X e f) (hs : swapsWith e (some (.Name x pos')) pos.line X.env = pure false := by rfl) (hf : X.fn x = true ∨ X.env.scope.names.lookup x = some .local := by first | exact .inl rfl | exact .inr rfl | assumption) : DS X (.Assign [.Name x pos'] e pos) (sSet i f) := (ps_set hN hi hx he hs hf).imp set_imp
theorem ds_setA (he : DE X e f) (hs : swapsWith e (some (.Name x pos')) pos.line X.env = pure false := by rfl) (hf : X.fn x = true ∨ X.env.scope.names.lookup x = some .local := by first | exact .inl rfl | exact .inr rfl | assumption) : DS X (.Assign [.Name x pos'] e pos) (sSetA i f) := (ps_set hN hi hx he hs hf).imp setA_imp
theorem ds_own (he : DF X e f) (hs : swapsWith e (some (.Name x pos')) pos.line X.env = pure false := by rfl) (hf : X.fn x = true ∨ X.env.scope.names.lookup x = some .local := by first | exact .inl rfl | exact .inr rfl | assumption) : DS X (.Assign [.Name x pos'] e pos) (sOwn i f) := (ps_set hN hi hx he hs hf).imp own_imp
end
theorem ds_setLc {i : Nat} {y : Str} {py : Pos} {elt tg iter : Expr} {ifs : List Expr} {scope : Scope} {own : List (Str × Nat)} {pos spos : Pos} {h : FI} {g : D → Ev → Option Ev} {tt : Ev → M Bool} {te : FE} (hc : X.calm = true) (hN : X.N.Nodup) (hy : X.N[i]? = some y) (hyl : X.env.scope.names.lookup y = some .local)
    (hsw : swapsWith (.ListComp elt [⟨tg, iter, ifs, 0⟩] scope pos) (some (.Name y py)) spos.line X.env = pure true) (hi : DI X tg iter h) (ok : BlkOk X.N X.env.scope scope own)
    (hg : ∀ (s : Shared) (H : Hp) (C : Addr) (cl : List (Str × Addr)) (fp : List Addr), DG (X.blk s H scope (compEnvC scope cl C X.env) fp) tg (own.map (·.2)) g) (ht : ∀ (s : Shared) (H : Hp) (C : Addr) (cl : List (Str × Addr)) (fp : List Addr), DTs (X.blk s H scope (compEnvC scope cl C X.env) fp) ifs tt)
    (he : ∀ (s : Shared) (H : Hp) (C : Addr) (cl : List (Str × Addr)) (fp : List Addr), DF (X.blk s H scope (compEnvC scope cl C X.env) fp) elt te) (hs : ∀ x, foldedSetIterable iter X.env x = pure x := by intro _; rfl) :
    DS X (.Assign [.Name y py] (.ListComp elt [⟨tg, iter, ifs, 0⟩] scope pos) spos) (sOwn i (eLc h (own.map (·.2)) g tt te)) := (ps_setLc hc hN hy hyl hsw hi ok hg ht he hs).imp fun σ H Q w => tLcF_imp σ H _ (own_imp σ H Q w)
theorem ds_ret (he : DE X e f) : DS X (.Return (some e) pos) (sRet f) := (ps_ret he).imp fun σ H Q ⟨S, W, H0, δ, st, o, st', rs, so, e, q⟩ => by
  obtain ⟨d, s1, ea, e⟩ := bd_inv e
  obtain ⟨e1, e2⟩ := ret_inv e
  subst e1 e2
  exact ⟨S, δ, st, d, _, rs.rs, so, ea, fun v H1 L x1 so1 r => q v H1 L (rs.he.trans (x1.mono fun b e => e ▸ rs.wA)) so1 r⟩
theorem ds_retN : DS X (.Return none pos) sRetN := ps_retN.imp fun σ H Q ⟨S, W, H0, δ, st, o, st', rs, so, e, q⟩ => by
  obtain ⟨e1, e2⟩ := ret_inv e
  subst e1 e2
  exact q _ H [] rs.he so .non
theorem ds_if {c : Expr} {a b : List Stmt} {t : Ev → M Bool} (hc : DT X c t) (ha : DSs X a g) (hb : DSs X b g') : DS X (.If c a b pos) (sIf t g g') := (ps_if hc ha hb).imp fun σ H Q ⟨S, W, H0, δ, st, o, st', rs, so, e, q⟩ => by
  obtain ⟨k, s1, ea, e⟩ := bd_inv e
  refine ⟨S, δ, st, k, s1, rs.rs, so, ea, fun H1 x1 so1 => ?_⟩
  cases k with
  | true =>
    rw [if_pos rfl] at e
    exact iteT ⟨S, W, H0, δ, s1, o, st', rs.ext x1, so1, e, q⟩
  | false =>
    rw [if_neg Bool.false_ne_true] at e
    exact iteF ⟨S, W, H0, δ, s1, o, st', rs.ext x1, so1, e, q⟩
theorem ds_no : DS X s sNo := ps_never.imp fun σ H Q ⟨S, W, H0, δ, st, o, st', rs, so, e, q⟩ => by cases e
theorem ds_bk : DS X (.Break pos) sBk := ps_break.imp fun σ H Q ⟨S, W, H0, δ, st, o, st', rs, so, e, q⟩ => by
  obtain ⟨e1, e2⟩ := ret_inv e
  subst e1 e2
  exact q σ H rs so
theorem ds_ct : DS X (.Continue pos) sCt := ps_continue.imp fun σ H Q ⟨S, W, H0, δ, st, o, st', rs, so, e, q⟩ => by
  obtain ⟨e1, e2⟩ := ret_inv e
  subst e1 e2
  exact q σ H rs so
end
end DL
set_option Elab.async false
set_option linter.all false
set_option maxRecDepth 100000
set_option maxHeartbeats 4000000
/-! DL5: loops, stores into lists, several targets, defs and their calls. -/
namespace DL
open PySem PySem.Spec PyProof.Rows L2

/-! ### targets of statements -/
def tGSt (g : D → Ev → Option Ev) : TG := fun v σ H Q => ∃ S W H0 δ d δ', RS S W H0 H σ δ ∧ Rp S H v d [] ∧ g d δ = some δ' ∧ ∀ σ', RS S W H0 H σ' δ' → Q σ' H
def tGSs (g : List D → Ev → Option Ev) : TGs := fun vs σ H Q => ∃ S W H0 δ ds δ', RS S W H0 H σ δ ∧ Rps S H vs ds [] ∧ g ds δ = some δ' ∧ ∀ σ', RS S W H0 H σ' δ' → Q σ' H
abbrev SG (X : Cx) (e : Expr) (g : D → Ev → Option Ev) : Prop := PG X e (tGSt g)
abbrev SGs (X : Cx) (es : List Expr) (g : List D → Ev → Option Ev) : Prop := PGs X es (tGSs g)
theorem Rps.nilc {S : Sr} {H : Hp} {v : V} {vs : List V} {d : D} {ds : List D} {L : List Addr} (r : Rps S H (v :: vs) (d :: ds) L) (h : L = []) : Rp S H v d [] ∧ Rps S H vs ds [] := by
  cases r with
  | cons r rs =>
    obtain ⟨e1, e2⟩ := List.append_eq_nil_iff.mp h
    subst e1 e2
    exact ⟨r, rs⟩
section
variable {X : Cx} {pos : Pos}
theorem sg_name {i : Nat} {x : Str} (hN : X.N.Nodup) (hi : X.N[i]? = some x) (hx : Loc X.env.scope x) (hf : X.fn x = true ∨ X.env.scope.names.lookup x = some .local := by first | exact .inl rfl | exact .inr rfl | assumption) : SG X (.Name x pos) (gN i) :=
  (pg_name hN hi hx hf).imp fun v σ H Q ⟨S, W, H0, δ, d, δ', rs, r, e, q⟩ => by
  cases e
  exact q _ (rs.put_lf r)
theorem sgs_nil : SGs X [] gs0 := pgs_nil.imp fun v σ H Q ⟨S, W, H0, δ, ds, δ', rs, r, e, q⟩ => by
  cases ds with
  | nil =>
    cases r
    cases e
    exact ⟨rfl, q σ rs⟩
  | cons d ds => cases e
theorem sgs_cons {e : Expr} {es : List Expr} {g : D → Ev → Option Ev} {gs : List D → Ev → Option Ev} (h1 : SG X e g) (h2 : SGs X es gs)
    (hs : (assignEach (e :: es) X.env).map (·.2) = assign e X.env :: (assignEach es X.env).map (·.2) := by rfl) : SGs X (e :: es) (gsC g gs) := (pgs_cons h1 h2 hs).imp fun v σ H Q ⟨S, W, H0, δ, ds, δ', rs, r, e, q⟩ => by
  cases ds with
  | nil => cases e
  | cons d ds =>
    cases v with
    | nil => cases r
    | cons v vs =>
      obtain ⟨r1, r2⟩ := r.nilc rfl
      obtain ⟨δ1, e1, e2⟩ := Option.bind_eq_some_iff.mp (show (g d δ).bind (gs ds) = some δ' from e)
      exact ⟨v, vs, rfl, S, W, H0, δ, d, δ1, rs, r1, e1, fun σ' rs1 => ⟨S, W, H0, δ1, ds, δ', rs1, r2, e2, q⟩⟩
theorem sg_tup {es : List Expr} {k : Nat} {n : Nat} {gs : List D → Ev → Option Ev} (hc : X.calm = true) (h : SGs X es gs)
    (hn : (assignEach es X.env).length = n := by rfl) (hst : (assignEach es X.env).findIdx? (·.1) = none := by rfl) : SG X (.Tuple es k pos) (gT n gs) := (pg_tup hc h hn hst).imp fun v σ H Q ⟨S, W, H0, δ, d, δ', rs, r, e, q⟩ => by
  cases d with
  | tup ds =>
    have e : (if ds.length = n then gs ds δ else none) = some δ' := e
    obtain ⟨a, vs', rfl, ha, rr⟩ := r.itup
    by_cases hl : ds.length = n
    · rw [if_pos hl] at e
      exact ⟨a, vs', rfl, SqT.of ha, rr.len.trans hl, S, W, H0, δ, ds, δ', rs, rr, e, q⟩
    · rw [if_neg hl] at e; cases e
  | _ => cases e
/-- target = value without lists -/
def sTg (f : FE) (g : D → Ev → Option Ev) : FS := fun δ => (f δ).bd fun d => (M.of (if d.lf = true then g d δ else none)).bd fun δ' => M.ret (.nx δ')
theorem ds_asg {tg e : Expr} {f : FE} {g : D → Ev → Option Ev} (he : DE X e f) (hg : SG X tg g) (hs : swapsWithSole [tg] e pos.line X.env = pure false := by rfl) (hw : swappedStores [tg] e X.env = pure none := by rfl)
    (h1 : (assignEach [tg] X.env).map (·.2) = [assign tg X.env] := by rfl) : DS X (.Assign [tg] e pos) (sTg f g) := (ps_asg he hg hs hw h1).imp fun σ H Q ⟨S, W, H0, δ, st, o, st', rs, so, e, q⟩ => by
  obtain ⟨d, s1, ea, e⟩ := bd_inv e
  obtain ⟨δ', s2, eb, e⟩ := bd_inv e
  obtain ⟨e1, e2⟩ := ret_inv e
  obtain ⟨e3, e4⟩ := of_inv eb
  clear e eb
  subst e1 e2 e4
  by_cases hl : d.lf = true
  · rw [if_pos hl] at e3
    refine ⟨S, δ, st, d, _, rs.rs, so, ea, fun v H1 L x1 so1 r => ⟨S, W, H0, δ, d, δ', rs.ext x1, ?_, e3, fun σ' rs' => q σ' H1 rs' so1⟩⟩
    have hL := r.nil hl
    subst hL
    exact r
  · rw [if_neg hl] at e3; cases e3
/-- a, b, .. = a list of things without lists -/
def sTl (f : FE) (n : Nat) (gs : List D → Ev → Option Ev) : FS := fun δ => (f δ).bd fun d => (M.of (match d with | .lst ds => if ds.length = n ∧ lfs ds = true then gs ds δ else none | _ => none)).bd fun δ' => M.ret (.nx δ')
theorem ds_asgL {es : List Expr} {k : Nat} {e : Expr} {f : FE} {n : Nat} {gs : List D → Ev → Option Ev} {tpos : Pos} (hc : X.calm = true) (he : DE X e f) (h : SGs X es gs)
    (hn : (assignEach es X.env).length = n := by rfl) (hst : (assignEach es X.env).findIdx? (·.1) = none := by rfl) (hs : swapsWithSole [.Tuple es k tpos] e pos.line X.env = pure false := by rfl) (hw : swappedStores [.Tuple es k tpos] e X.env = pure none := by rfl)
    (h1 : (assignEach [.Tuple es k tpos] X.env).map (·.2) = [assign (.Tuple es k tpos) X.env] := by rfl) : DS X (.Assign [.Tuple es k tpos] e pos) (sTl f n gs) := (ps_asg he (pg_unl hc h hn hst) hs hw h1).imp fun σ H Q ⟨S, W, H0, δ, st, o, st', rs, so, e, q⟩ => by
  obtain ⟨d, s1, ea, e⟩ := bd_inv e
  obtain ⟨δ', s2, eb, e⟩ := bd_inv e
  obtain ⟨e1, e2⟩ := ret_inv e
  obtain ⟨e3, e4⟩ := of_inv eb
  clear e eb
  subst e1 e2 e4
  cases d with
  | lst ds =>
    have e3 : (if ds.length = n ∧ lfs ds = true then gs ds δ else none) = some δ' := e3
    by_cases hl : ds.length = n ∧ lfs ds = true
    · rw [if_pos hl] at e3
      refine ⟨S, δ, st, _, _, rs.rs, so, ea, fun v H1 L x1 so1 r => ?_⟩
      obtain ⟨a, vs, L', rfl, ha, na, rr, rfl⟩ := r.ilst
      have hL := rr.nils hl.2
      subst hL
      exact ⟨a, vs, rfl, SqL.of ha, rr.len.trans hl.1, S, W, H0, δ, ds, δ', rs.ext x1, rr, e3, fun σ' rs' => q σ' H1 rs' so1⟩
    · rw [if_neg hl] at e3; cases e3
  | _ => cases e3
/-- a, b = x, y (plain locals, stored from the right) -/
def sPar (i j : Nat) (fs : Ev → M (List D)) : FS := fun δ => (fs δ).bd fun ds => match ds with | [d, e] => if lfs [d, e] = true then M.ret (.nx ((δ.set i (.rd d)).set j (.rd e))) else M.no | _ => M.no
theorem ds_par {i j : Nat} {x y : Str} {a b : Expr} {fs : Ev → M (List D)} {px py pt : Pos} {kt k2 pt2} (hc : X.calm = true) (hN : X.N.Nodup) (hi : X.N[i]? = some x) (hj : X.N[j]? = some y) (hij : i ≠ j)
    (hx : X.env.scope.names.lookup x = some .local) (hy : X.env.scope.names.lookup y = some .local) (ha : DA X [a, b] fs)
    (hw : swappedStores [.Tuple [.Name x px, .Name y py] kt pt] (.Tuple [a, b] k2 pt2) X.env = pure (some [x, y]) := by rfl)
    (hs : swapsWithSole [.Tuple [.Name x px, .Name y py] kt pt] (.Tuple [a, b] k2 pt2) pos.line X.env = pure false := by rfl) :
    DS X (.Assign [.Tuple [.Name x px, .Name y py] kt pt] (.Tuple [a, b] k2 pt2) pos) (sPar i j fs) := (ps_par hc hN hi hj hij hx hy ha hw hs).imp fun σ H Q ⟨S, W, H0, δ, st, o, st', rs, so, e, q⟩ => by
  obtain ⟨ds, s1, ea, e⟩ := bd_inv e
  match ds, e with
  | [d, e0], e =>
    by_cases hl : lfs [d, e0] = true
    · have e : (if lfs [d, e0] = true then M.ret (.nx ((δ.set i (.rd d)).set j (.rd e0))) else M.no) s1 = some (o, st') := e
      rw [if_pos hl] at e
      obtain ⟨e1, e2⟩ := ret_inv e
      subst e1 e2
      refine ⟨S, δ, st, _, _, rs.rs, so, ea, fun vs H1 L x1 so1 r => ?_⟩
      have hL := r.nils hl
      subst hL
      obtain ⟨v, w, rfl⟩ : ∃ v w, vs = [v, w] := by
        obtain ⟨v, w, _, _, z, _⟩ := r.i2
        exact ⟨v, w, z⟩
      obtain ⟨r1, r2⟩ := r.nilc rfl
      exact ⟨v, w, rfl, q _ H1 (((rs.ext x1).put_lf r1).put_lf (r2.nilc rfl).1) so1⟩
    · have e : (if lfs [d, e0] = true then M.ret (.nx ((δ.set i (.rd d)).set j (.rd e0))) else M.no) s1 = some (o, st') := e
      rw [if_neg hl] at e; cases e
def sPar3 (i j l : Nat) (fs : Ev → M (List D)) : FS := fun δ => (fs δ).bd fun ds => match ds with | [d, e, f] => if lfs [d, e, f] = true then M.ret (.nx (((δ.set i (.rd d)).set j (.rd e)).set l (.rd f))) else M.no | _ => M.no
theorem ds_par3 {i j l : Nat} {x y z : Str} {a b c : Expr} {fs : Ev → M (List D)} {px py pz pt : Pos} {kt k2 pt2} (hc : X.calm = true) (hN : X.N.Nodup) (hi : X.N[i]? = some x) (hj : X.N[j]? = some y) (hl : X.N[l]? = some z) (hij : i ≠ j) (hil : i ≠ l) (hjl : j ≠ l)
    (hx : X.env.scope.names.lookup x = some .local) (hy : X.env.scope.names.lookup y = some .local) (hz : X.env.scope.names.lookup z = some .local) (ha : DA X [a, b, c] fs)
    (hw : swappedStores [.Tuple [.Name x px, .Name y py, .Name z pz] kt pt] (.Tuple [a, b, c] k2 pt2) X.env = pure (some [x, y, z]) := by rfl)
    (hs : swapsWithSole [.Tuple [.Name x px, .Name y py, .Name z pz] kt pt] (.Tuple [a, b, c] k2 pt2) pos.line X.env = pure false := by rfl) :
    DS X (.Assign [.Tuple [.Name x px, .Name y py, .Name z pz] kt pt] (.Tuple [a, b, c] k2 pt2) pos) (sPar3 i j l fs) := (ps_par3 hc hN hi hj hl hij hil hjl hx hy hz ha hw hs).imp fun σ H Q ⟨S, W, H0, δ, st, o, st', rs, so, e, q⟩ => by
  obtain ⟨ds, s1, ea, e⟩ := bd_inv e
  match ds, e with
  | [d, e0, f0], e =>
    have e : (if lfs [d, e0, f0] = true then M.ret (.nx (((δ.set i (.rd d)).set j (.rd e0)).set l (.rd f0))) else M.no) s1 = some (o, st') := e
    by_cases hl : lfs [d, e0, f0] = true
    · rw [if_pos hl] at e
      obtain ⟨e1, e2⟩ := ret_inv e
      subst e1 e2
      refine ⟨S, δ, st, _, _, rs.rs, so, ea, fun vs H1 L x1 so1 r => ?_⟩
      have hL := r.nils hl
      subst hL
      obtain ⟨v, w, u, rfl⟩ : ∃ v w u, vs = [v, w, u] := by
        obtain ⟨v, w, u, _, _, _, z, _⟩ := r.i3
        exact ⟨v, w, u, z⟩
      obtain ⟨r1, r2⟩ := r.nilc rfl
      obtain ⟨r2, r3⟩ := r2.nilc rfl
      exact ⟨v, w, u, rfl, q _ H1 ((((rs.ext x1).put_lf r1).put_lf r2).put_lf (r3.nilc rfl).1) so1⟩
    · rw [if_neg hl] at e; cases e
/-- x op= e -/
def sAug (i : Nat) (o : D → D → Option D) (f : FE) : FS := fun δ => (M.of (gt δ i)).bd fun x => (f δ).bd fun y => (M.of (o x y)).bd fun z => if z.lf = true then M.ret (.nx (δ.set i (.rd z))) else M.no
theorem o_iadd : OpR X (inplaceOp .Add) (rD2 fun a b => match a, b with | .int i, .int j => some (.int (i + j)) | _, _ => none) := o_ints (gD := fun i j => .int (i + j)) iop_add (fun a b d e => by cases a <;> cases b <;> cases e; exact ⟨_, _, rfl, rfl, rfl⟩) fun _ _ _ _ => .int _
theorem o_isub : OpR X (inplaceOp .Sub) (rD2 dSub) := o_ints (gD := fun i j => .int (i - j)) iop_sub (fun a b d e => by cases a <;> cases b <;> cases e; exact ⟨_, _, rfl, rfl, rfl⟩) fun _ _ _ _ => .int _
theorem ds_aug {i : Nat} {x : Str} {e : Expr} {f : FE} {op : Operator} {o : D → D → Option D} {pos' : Pos} (hN : X.N.Nodup) (hi : X.N[i]? = some x) (hx : Loc X.env.scope x) (he : DE X e f) (ho : OpR X (inplaceOp op) (rD2 o)) (hf : X.fn x = true ∨ X.env.scope.names.lookup x = some .local := by first | exact .inl rfl | exact .inr rfl | assumption) :
    DS X (.AugAssign (.Name x pos') op e pos) (sAug i o f) := (ps_aug (ti := rD2 o) hN hi hx he (fun pins s σ H x y v u Q I r1 r2 h => ho pins s σ H x y v u Q I r1 r2 h) hf).imp fun σ H Q ⟨S, W, H0, δ, st, o', st', rs, so, e, q⟩ => by
  obtain ⟨x, s0, e0, e3⟩ := bd_inv e
  obtain ⟨g0, g1⟩ := of_inv e0
  clear e0 e
  subst g1
  obtain ⟨y, s1, ea, e4⟩ := bd_inv e3
  clear e3
  obtain ⟨z, s2, eb, e⟩ := bd_inv e4
  obtain ⟨h0, h1⟩ := of_inv eb
  clear eb e4
  subst h1
  by_cases hl : z.lf = true
  · rw [if_pos hl] at e
    obtain ⟨e1, e2⟩ := ret_inv e
    clear e
    subst e1 e2
    obtain ⟨v, L, hv, rv⟩ := rs.rs.at_ i x g0
    refine ⟨v, hv, S, δ, _, y, _, rs.rs, so, ea, fun w H1 L1 x1 so1 r1 => ⟨S, x, y, z, L, L1, so1.tr, rv.extS x1, r1, h0, fun u H2 L2' x2 r2 => q _ H2 ?_ (so1.ext0 x2)⟩⟩
    have hL := r2.nil hl
    subst hL
    exact (rs.ext (x1.trans x2.up0)).put_lf r2
  · rw [if_neg hl] at e; cases e

/-! ### stores into lists -/
/-- x.append(e) -/
def sApp (i : Nat) (f : FE) : FS := fun δ => match δ[i]? with
  | some (.ow (.lst ds)) => (f δ).bd fun d => if d.lf = true ∧ ds.length < 1000000 then M.ret (.nx (δ.set i (.ow (.lst (ds ++ [d]))))) else M.no
  | _ => M.no
theorem ds_app {i : Nat} {x : Str} {e : Expr} {f : FE} {apos cpos p : Pos} (hi : X.N[i]? = some x) (hv : Vis X.env.scope x) (he : DE X e f)
    (hs : swapsWith (.Call (.Attribute (.Name x p) "append" apos) [e] [] cpos) none pos.line X.env = pure false := by rfl)
    (hbase : attributeBase (.Name x p) "append" X.env (eval (.Name x p) X.env) = eval (.Name x p) X.env := by rfl)
    (hfew : ((backTo cpos (starEach [e] X.env)).all (fun x => !x.1) && (backToKw cpos (keywordEach [] X.env)).all (fun x => x.1.isSome) && decide (([e] : List Expr).length + ([] : List Keyword).length + (if ([] : List Keyword).isEmpty then 0 else 1) < 30)) = true := by rfl)
    (hline : (apos.endLine == cpos.line) = true := by rfl) (hst : starEach [e] X.env = (false, eval e X.env) :: starEach [] X.env := by rfl) (hplain : (backTo cpos (starEach [] X.env)).any (·.1) = false := by rfl)
    (hd : (x == ("__debug__" : Str)) = false := by decide) (hcd : (x == ("__classdict__" : Str)) = false := by decide) :
    DS X (.Expr (.Call (.Attribute (.Name x p) "append" apos) [e] [] cpos) pos) (sApp i f) :=
  (ps_expr (pe_bm PySem.F.plainAttrs_list PySem.F.slot_list_append PySem.F.type_list_append mt_append (pe_var hi hv hd hcd) (pa_cons he pa_nil hst) hbase hfew hline hst hplain) hs).imp fun σ H Q ⟨S, W, H0, δ, st, o, st', rs, so, e, q⟩ => by
  unfold sApp at e
  cases ei : δ[i]? with
  | none => rw [ei] at e; cases e
  | some sl =>
    rw [ei] at e
    cases sl with
    | ow d =>
      cases d with
      | lst ds =>
        obtain ⟨d, s1, ea, e⟩ := bd_inv (show ((f δ).bd fun d => if d.lf = true ∧ ds.length < 1000000 then M.ret (.nx (δ.set i (.ow (.lst (ds ++ [d]))))) else M.no) st = some (o, st') from e)
        by_cases hl : d.lf = true ∧ ds.length < 1000000
        · rw [if_pos hl] at e
          obtain ⟨e1, e2⟩ := ret_inv e
          subst e1 e2
          obtain ⟨a, vs, L, hσ, hH, nh, rr, nd⟩ := rs.own ei
          refine ⟨.ref a, hσ, .inl ⟨rfl, _, SqL.of hH⟩, S, δ, st, d, _, rs.rs, so, ea, fun v H1 L1 x1 so1 r1 => ?_⟩
          have hL := r1.nil hl.1
          subst hL
          have hH1 : H1 a = some (.lst vs) := x1.lst _ _ (fun z => nh (z ▸ S.hA)) hH
          refine ⟨a, vs, v, rfl, rfl, hH1, Nat.lt_of_lt_of_le (by rw [rr.len]; exact hl.2) (size_ok (Nat.le_refl _)), ?_⟩
          have rr1 := rr.extS x1
          have nd' := List.nodup_cons.mp nd
          have rr2 := rr1.append (Rps.one r1)
          rw [List.append_nil] at rr2
          exact q σ _ ((rs.ext x1).wr (L' := L) ei hσ hH1 rr1 (rr2.ext (HE.writeN hH1) fun b hb z => nd'.1 (z ▸ hb)) nd'.2 (fun b hb => hb) nd'.1) (so1.wr nh)
        · rw [if_neg hl] at e; cases e
      | _ => cases e
    | _ => cases e
/-- x[k] = e, x a list of things without lists -/
def sSub (i : Nat) (fk f : FE) : FS := fun δ => (f δ).bd fun d => (fk δ).bd fun k => match δ[i]?, k with
  | some (.ow (.lst ds)), .int n => if d.lf = true ∧ lfs ds = true then (M.of ((ixN ds.length n).map fun j => Out.nx (δ.set i (.ow (.lst (ds.set j d)))))) else M.no
  | _, _ => M.no
theorem lfs_set {d : D} (hd : d.lf = true) : ∀ {ds : List D} (j : Nat), lfs ds = true → lfs (ds.set j d) = true
  | [], _, h => h
  | x :: xs, 0, h => by simp only [lfs, List.set_cons_zero, Bool.and_eq_true] at *; exact ⟨hd, h.2⟩
  | x :: xs, j + 1, h => by simp only [lfs, List.set_cons_succ, Bool.and_eq_true] at *; exact ⟨h.1, lfs_set hd j h.2⟩
theorem Rps.set {S : Sr} {H : Hp} {v : V} {d : D} (r : Rp S H v d []) : ∀ {vs : List V} {ds : List D} (j : Nat), Rps S H vs ds [] → Rps S H (vs.set j v) (ds.set j d) []
  | [], _, _, h => by cases h; exact .nil
  | x :: xs, [], _, h => by cases h
  | x :: xs, e :: es, 0, h => by
    obtain ⟨h1, h2⟩ := h.nilc rfl
    exact .cons r h2
  | x :: xs, e :: es, j + 1, h => by
    obtain ⟨h1, h2⟩ := h.nilc rfl
    exact .cons h1 (Rps.set r j h2)
theorem ds_sub {i : Nat} {x : Str} {k e : Expr} {fk f : FE} {p spos : Pos} (hi : X.N[i]? = some x) (hv : Vis X.env.scope x) (hk : DE X k fk) (he : DE X e f)
    (ha : ∀ v, assign (.Subscript (.Name x p) k spos) X.env v = (do
      let ov ← holding [v] (eval (.Name x p) X.env)
      let iv ← holding [v, ov] (eval k X.env)
      standAt spos
      holding [v, ov, iv] (setItem ov iv v)
      release [v, ov, iv] []) := by intro _; rfl)
    (hs : swapsWithSole [.Subscript (.Name x p) k spos] e pos.line X.env = pure false := by rfl) (hw : swappedStores [.Subscript (.Name x p) k spos] e X.env = pure none := by rfl)
    (h1 : (assignEach [.Subscript (.Name x p) k spos] X.env).map (·.2) = [assign (.Subscript (.Name x p) k spos) X.env] := by rfl)
    (hd : (x == ("__debug__" : Str)) = false := by decide) (hcd : (x == ("__classdict__" : Str)) = false := by decide) : DS X (.Assign [.Subscript (.Name x p) k spos] e pos) (sSub i fk f) :=
  (ps_asg he (pg_sub (pe_var hi hv hd hcd) hk set_list ha) hs hw h1).imp fun σ H Q ⟨S, W, H0, δ, st, o, st', rs, so, e, q⟩ => by
  obtain ⟨d, s1, ea, e⟩ := bd_inv e
  obtain ⟨kd, s2, eb, e⟩ := bd_inv e
  cases ei : δ[i]? with
  | none => rw [ei] at e; cases e
  | some sl =>
    rw [ei] at e
    cases sl with
    | ow d0 =>
      cases d0 with
      | lst ds =>
        cases kd with
        | int n =>
          have e : (if d.lf = true ∧ lfs ds = true then (M.of ((ixN ds.length n).map fun j => Out.nx (δ.set i (.ow (.lst (ds.set j d)))))) else M.no) s2 = some (o, st') := e
          by_cases hl : d.lf = true ∧ lfs ds = true
          · rw [if_pos hl] at e
            obtain ⟨e1, e2⟩ := of_inv e
            clear e
            subst e2
            obtain ⟨j, e3, e4⟩ := Option.map_eq_some_iff.mp e1
            subst e4
            refine ⟨S, δ, st, d, s1, rs.rs, so, ea, fun v H1 L1 x1 so1 r1 => ?_⟩
            have hL := r1.nil hl.1
            subst hL
            obtain ⟨a, vs, L, hσ, hH, nh, rr, nd⟩ := (rs.ext x1).own ei
            refine ⟨.ref a, hσ, S, δ, s1, _, _, (rs.ext x1).rs, so1, eb, fun w H2 L2' x2 so2 r2 => ?_⟩
            obtain ⟨rfl, rfl⟩ := r2.iint
            have hH2 : H2 a = some (.lst vs) := x2.lst _ _ (fun z => nh (z ▸ S.hA)) hH
            have rr2 := rr.extS x2
            have hLn := rr2.nils hl.2
            subst hLn
            refine ⟨a, vs, n, j, rfl, rfl, hH2, by rw [rr.len]; exact e3, ?_⟩
            exact q σ _ ((rs.ext (x1.trans x2)).wr (L' := []) ei hσ hH2 rr2 ((Rps.set (r1.extS x2) j rr2).ext (HE.writeN hH2) fun _ z => nomatch z) List.nodup_nil (fun _ z => nomatch z) (fun z => nomatch z)) (so2.wr nh)
          · rw [if_neg hl] at e; cases e
        | _ => cases e
      | _ => cases e
    | _ => cases e
end

/-! ### loops -/
def fLp (tg : D → Ev → Option Ev) (body : FS) : List D → Ev → M Out
  | [], δ => M.ret (.nx δ)
  | x :: xs, δ => (M.of (if x.lf = true then tg x δ else none)).bd fun δ1 => (body δ1).bd fun o => match o with
    | .nx δ2 => fLp tg body xs δ2
    | .ct δ2 => fLp tg body xs δ2
    | .bk δ2 => M.ret (.nx δ2)
    | .rt d => M.ret (.rt d)
def sFor (h : FI) (tg : D → Ev → Option Ev) (body : FS) : FS := fun δ => (h δ).bd fun ds => fLp tg body ds δ
def sForN (h : FI) (tg : D → Ev → Option Ev) (body : FS) : FS := fun δ => (h δ).bd fun ds => if noOw δ = true then fLp tg body ds δ else M.no
theorem RS.enter {S : Sr} {W : Addr → Prop} {H0 H H1 : Hp} {σ : L2.St} {δ : Ev} {La : List Addr} (r : RS S W H0 H σ δ) (x : Ext S H H1) (la : ∀ a ∈ La, ¬ S.hid a ∧ ∃ xs, H1 a = some (.lst xs))
    (ap : ∀ (i : Nat) (d : D), δ[i]? = some (Sl.ow d) → ∀ v L, σ[i]? = some (some v) → Rp S H v d L → ∀ a ∈ L, a ∉ La) : RS S (fun b => W b ∧ b ∉ La) H1 H1 σ δ where
  len := r.len
  he := HE.refl
  wA := ⟨r.wA, fun z => (la _ z).1 S.hA⟩
  wn := fun b e => ⟨r.wn b (r.he.new b (x.new b e)), fun z => by
    obtain ⟨_, xs, q⟩ := la b z
    rw [e] at q; cases q⟩
  sl := by
    obtain ⟨Λ, h, h2⟩ := r.sl
    refine ⟨Λ, fun i d e => ?_, fun i d e => ?_⟩
    · obtain ⟨v, a, b⟩ := h i d e
      exact ⟨v, a, b.extS x⟩
    · obtain ⟨v, a, b⟩ := h i d (gt_ow e)
      obtain ⟨n, w⟩ := h2 i d e
      exact ⟨n, fun c hc => ⟨⟨(w c hc).1, ap i d e v _ a b c hc⟩, (w c hc).2⟩⟩
theorem RS.leave {S : Sr} {W W2 : Addr → Prop} {H0 H1 H : Hp} {σ : L2.St} {δ : Ev} (r : RS S W2 H1 H σ δ) (he : HE W H0 H1) (sub : ∀ b, W2 b → W b) (wA : W S.dA) (wn : ∀ b, H0 b = none → W b) : RS S W H0 H σ δ where
  len := r.len
  he := he.trans (r.he.mono sub)
  wA := wA
  wn := wn
  sl := by
    obtain ⟨Λ, h, h2⟩ := r.sl
    exact ⟨Λ, h, fun i d e => ⟨(h2 i d e).1, fun a ha => ⟨sub a ((h2 i d e).2 a ha).1, ((h2 i d e).2 a ha).2⟩⟩⟩
theorem for_core {h : FI} {tg : D → Ev → Option Ev} {body : FS} {S : Sr} {W : Addr → Prop} {H0 H H1 : Hp} {σ : L2.St} {δ : Ev} {Q : Ends} {s1 st' : Src} {o : Out} {ds : List D} {J : It} {La : List Addr} (rs : RS S W H0 H σ δ) (x1 : Ext S H H1) (so1 : SrcOk S H1 s1) (wk : Wk S J H1 ds La)
    (ap : ∀ (i : Nat) (d : D), δ[i]? = some (Sl.ow d) → ∀ v L, σ[i]? = some (some v) → Rp S H v d L → ∀ a ∈ L, a ∉ La) (e : fLp tg body ds δ s1 = some (o, st')) (q : Post S W H0 st' Q o) :
    ∃ W : Nat → Nat → L2.St → Hp → Prop, (∃ m, W 0 m σ H1) ∧ ∀ i m σ H, W i m σ H →
      (J.stop i H ∧ Q.nx σ H) ∨ (J.go i H ∧ ∃ N : L2.St → Hp → Prop, (∀ σ' H', N σ' H' → ∃ m', m' < m ∧ W (i + 1) m' σ' H') ∧ ∀ x H', J.yld i H x H' → tGSt tg x σ H' fun σ2 H2 => tS body { Q with nx := N, ct := N, bk := Q.nx } σ2 H2) := by
  have he1 : HE W H0 H1 := rs.he.trans (x1.mono fun b e => e ▸ rs.wA)
  have out : ∀ {σ' : L2.St} {H' : Hp} {δ' : Ev}, RS S (fun b => W b ∧ b ∉ La) H1 H' σ' δ' → RS S W H0 H' σ' δ' := fun r => r.leave he1 (fun _ z => z.1) rs.wA rs.wn
  refine ⟨fun i m σ H => m = ds.length - i ∧ i ≤ ds.length ∧ ∃ δi sti, RS S (fun b => W b ∧ b ∉ La) H1 H σ δi ∧ SrcOk S H sti ∧ fLp tg body (ds.drop i) δi sti = some (o, st'), ⟨ds.length, rfl, Nat.zero_le _, δ, s1, rs.enter x1 wk.la ap, so1, e⟩, ?_⟩
  rintro i m σ2 H2 ⟨rfl, hi, δi, sti, rs2, so2, e2⟩
  have x2' : HE (fun b => b ∉ La) H1 H2 := rs2.he.mono fun b z => z.2
  by_cases hlt : i < ds.length
  · refine .inr ⟨wk.go i H2 x2' hlt, fun σ H => (fun i m σ H => m = ds.length - i ∧ i ≤ ds.length ∧ ∃ δi sti, RS S (fun b => W b ∧ b ∉ La) H1 H σ δi ∧ SrcOk S H sti ∧ fLp tg body (ds.drop i) δi sti = some (o, st')) (i + 1) (ds.length - (i + 1)) σ H, fun σ' H' hN => ⟨ds.length - (i + 1), by omega, hN⟩, fun x H3 y => ?_⟩
    obtain ⟨d, Ld, hd, x3, rd, hLd⟩ := wk.yld i H2 x H3 x2' so2.tr hlt y
    have hdrop : ds.drop i = d :: ds.drop (i + 1) := by
      have e1 := List.drop_eq_getElem_cons hlt
      have e3 : ds[i] = d := by
        have z := List.getElem?_eq_getElem hlt
        rw [z] at hd
        exact Option.some.inj hd
      rw [e1, e3]
    rw [hdrop, fLp] at e2
    obtain ⟨δ1, t1, eg0, ec3⟩ := bd_inv e2
    obtain ⟨eg, et⟩ := of_inv eg0
    clear eg0 e2
    subst et
    obtain ⟨o1, t2, eb, ec2⟩ := bd_inv ec3
    clear ec3
    by_cases hl : d.lf = true
    rotate_left
    · rw [if_neg hl] at eg; cases eg
    rw [if_pos hl] at eg
    have hL := rd.nil hl
    subst hL
    refine ⟨S, _, H1, δi, d, δ1, rs2.ext x3.up0, rd, eg, fun σ3 rs3 => ⟨S, _, H1, δ1, _, o1, t2, rs3, so2.ext0 x3, eb, ?_⟩⟩
    cases o1 with
    | nx δ2 => exact fun σ' H' r' s' => ⟨rfl, hlt, δ2, t2, r', s', ec2⟩
    | ct δ2 => exact fun σ' H' r' s' => ⟨rfl, hlt, δ2, t2, r', s', ec2⟩
    | bk δ2 =>
      obtain ⟨e3, e4⟩ := ret_inv ec2
      subst e3 e4
      exact fun σ' H' r' s' => q σ' H' (out r') s'
    | rt d2 =>
      obtain ⟨e3, e4⟩ := ret_inv ec2
      subst e3 e4
      exact fun v H' L x' s' r' => q v H' L (he1.trans (x'.mono fun _ z => z.1)) s' r'
  · have ei : ds.drop i = [] := List.drop_eq_nil_of_le (by omega)
    rw [ei, fLp] at e2
    obtain ⟨e3, e4⟩ := ret_inv e2
    subst e3 e4
    exact .inl ⟨wk.stop i H2 x2' (by omega), q σ2 H2 (out rs2) so2⟩
section
variable {X : Cx} {pos : Pos}
theorem ds_for {tg iter : Expr} {bd : List Stmt} {h : FI} {g : D → Ev → Option Ev} {body : FS} (hp : PassesOwn (model X.prog X.w) X.A X.env X.xe) (hc : X.calm = true) (hi : DIF X tg iter h) (hg : SG X tg g) (hb : DSs X bd body)
    (hs : ∀ x, foldedSetIterable iter X.env x = pure x := by intro _; rfl) : DS X (.For tg iter bd [] pos) (sFor h g body) := (ps_for hp hc hi hg hb hs).imp fun σ H Q ⟨S, W, H0, δ, st, o, st', rs, so, e, q⟩ => by
  obtain ⟨ds, s1, eh, e⟩ := bd_inv e
  refine ⟨S, δ, st, ds, s1, rs.rs, so, eh, fun J H1 La x1 so1 wk fr => for_core (h := h) rs x1 so1 wk (fun i d ei v L hv r a ha hL => ?_) e q⟩
  obtain ⟨_, xs, w⟩ := r.ne a ha
  rw [fr a hL] at w
  cases w
theorem ds_forN {tg iter : Expr} {bd : List Stmt} {h : FI} {g : D → Ev → Option Ev} {body : FS} (hp : PassesOwn (model X.prog X.w) X.A X.env X.xe) (hc : X.calm = true) (hi : DI X tg iter h) (hg : SG X tg g) (hb : DSs X bd body)
    (hs : ∀ x, foldedSetIterable iter X.env x = pure x := by intro _; rfl) : DS X (.For tg iter bd [] pos) (sForN h g body) := (ps_for hp hc hi hg hb hs).imp fun σ H Q ⟨S, W, H0, δ, st, o, st', rs, so, e, q⟩ => by
  obtain ⟨ds, s1, eh, e⟩ := bd_inv e
  by_cases hn : noOw δ = true
  · rw [if_pos hn] at e
    refine ⟨S, δ, st, ds, s1, rs.rs, so, eh, fun J H1 La x1 so1 wk => for_core (h := h) rs x1 so1 wk (fun i d ei v L hv r a ha hL => ?_) e q⟩
    exact absurd (List.all_eq_true.mp hn _ (List.mem_of_getElem? ei)) Bool.false_ne_true
  · rw [if_neg hn] at e; cases e
def wLp (c : Ev → M Bool) (body : FS) : Nat → Ev → M Out
  | 0, _ => M.no
  | n + 1, δ => (c δ).bd fun k => if k = true then (body δ).bd fun o => match o with
    | .nx δ2 => wLp c body n δ2
    | .ct δ2 => wLp c body n δ2
    | .bk δ2 => M.ret (.nx δ2)
    | .rt d => M.ret (.rt d)
    else M.ret (.nx δ)
theorem ds_while {c : Expr} {bd : List Stmt} {t : Ev → M Bool} {body : FS} (n : Nat) (hp : PassesOwn (model X.prog X.w) X.A X.env X.xe) (hc : DT X c t) (hb : DSs X bd body) : DS X (.While c bd [] pos) (wLp t body n) := (ps_while hp hc hb).imp fun σ H Q ⟨S, W, H0, δ, st, o, st', rs, so, e, q⟩ => by
  refine ⟨fun m σ H => ∃ δi sti, RS S W H0 H σ δi ∧ SrcOk S H sti ∧ wLp t body m δi sti = some (o, st'), ⟨n, δ, st, rs, so, e⟩, ?_⟩
  rintro m σ2 H2 ⟨δi, sti, rs2, so2, e2⟩
  cases m with
  | zero => cases e2
  | succ m =>
    rw [wLp] at e2
    obtain ⟨k, t1, ek, e3⟩ := bd_inv e2
    clear e2
    refine ⟨S, δi, sti, k, t1, rs2.rs, so2, ek, fun H3 x3 so3 => ?_⟩
    cases k with
    | false =>
      rw [if_neg Bool.false_ne_true] at e3
      obtain ⟨e4, e5⟩ := ret_inv e3
      subst e4 e5
      exact iteF (q σ2 H3 (rs2.ext x3) so3)
    | true =>
      rw [if_pos rfl] at e3
      obtain ⟨o1, t2, eb, e4⟩ := bd_inv e3
      clear e3
      refine iteT ⟨fun σ' H' => ∃ δi sti, RS S W H0 H' σ' δi ∧ SrcOk S H' sti ∧ wLp t body m δi sti = some (o, st'), fun σ' H' z => ⟨m, Nat.lt_succ_self m, z⟩, S, W, H0, δi, t1, o1, t2, rs2.ext x3, so3, eb, ?_⟩
      cases o1 with
      | nx δ2 => exact fun σ' H' r' s' => ⟨δ2, t2, r', s', e4⟩
      | ct δ2 => exact fun σ' H' r' s' => ⟨δ2, t2, r', s', e4⟩
      | bk δ2 =>
        obtain ⟨e5, e6⟩ := ret_inv e4
        subst e5 e6
        exact q
      | rt d2 =>
        obtain ⟨e5, e6⟩ := ret_inv e4
        subst e5 e6
        exact q
end

/-! ### defs -/
/-- a def's promise: over data, the function F -/
def spD (n : Nat) (F : List D → M D) : Sp := fun vs H Q _ => ∃ S ds L st d st', Rps S H vs ds L ∧ ds.length = n ∧ SrcOk S H st ∧ F ds st = some (d, st') ∧ ∀ v H' L', Ext S H H' → SrcOk S H' st' → Rp S H' v d L' → Q v H'
/-- the slots at the entry -/
def ent (n : Nat) (ds : List D) : Ev := ds.map .rd ++ List.replicate (n - ds.length) .no
/-- what a def's body makes of its arguments: n slots -/
def run (n : Nat) (g : FS) : List D → M D := fun ds => (g (ent n ds)).bd fun o => match o with
  | .rt d => M.ret d
  | .nx _ => M.ret .non
  | _ => M.no
theorem gt_ent {n : Nat} {ds : List D} {i : Nat} {d : D} (h : gt (ent n ds) i = some d) : ds[i]? = some d := by
  unfold gt ent at h
  by_cases hi : i < ds.length
  · rw [List.getElem?_append_left (by simpa using hi), List.getElem?_map] at h
    rw [List.getElem?_eq_getElem hi] at h ⊢
    exact h
  · rw [List.getElem?_append_right (by simpa using hi), List.getElem?_replicate] at h
    split at h <;> cases h
theorem ent_now {n : Nat} {ds : List D} {i : Nat} {d : D} (h : (ent n ds)[i]? = some (.ow d)) : False := by
  unfold ent at h
  by_cases hi : i < ds.length
  · rw [List.getElem?_append_left (by simpa using hi), List.getElem?_map, List.getElem?_eq_getElem hi] at h
    cases h
  · rw [List.getElem?_append_right (by simpa using hi), List.getElem?_replicate] at h
    split at h <;> cases h
section
variable {P : Program} {w : World} {K : PySem.W.Frag} {mg : Str → Option Value} {base : Heap}
theorem fn_ok {x qual : Str} {st : Stmt} {f : Addr} {fd : FuncData} {N ps : List Str} {k : Nat} {g : FS} (F : Fun K x qual st f fd) (Sc : FnScope N ps (defScope st)) (hps : ps.length ≤ N.length)
    (hbody : ∀ (cdv : Value) (A : Around) (outer : List Env) (s : Shared) (H : Hp) (E : XK), Room k (A.deeper (envOfC qual (defScope st) s.heap.objs.size f cdv)) → DSs (cxOf CX0 P w K mg base N qual (defScope st) f cdv A outer s H E).nox (defBody st) g) :
    FnOk P w K mg base CX0 (k + 1) f fd ps (spD ps.length (run N.length g)) := by
  refine F.ok Sc (fun vs H Q E ⟨S, ds, L, st, d, st', r, hl, _⟩ => r.len.trans hl) fun cdv A outer s H vs Q E hr ⟨S, ds, L, st, d, st', r, hl, so, e, q⟩ => ⟨tS g, hbody cdv A outer s H E hr, ?_⟩
  obtain ⟨o, s1, e1, e2⟩ := bd_inv e
  have hlv := r.len
  have rs : RS S (fun b => H b = none ∨ b = S.dA) H H (L2.start N vs) (ent N.length ds) := by
    refine ⟨?_, HE.refl, .inr rfl, fun b h => .inl h, ?_⟩
    · unfold L2.start ent
      rw [List.length_append, List.length_append, List.length_map, List.length_map, List.length_replicate, List.length_replicate, hlv]
    · have get : ∀ i d, gt (ent N.length ds) i = some d → ∃ v L, (L2.start N vs)[i]? = some (some v) ∧ Rp S H v d L := fun i d h => by
        obtain ⟨v, L', a, b, _⟩ := r.get (gt_ent h)
        refine ⟨v, L', ?_, b⟩
        unfold L2.start
        have hi : i < vs.length := (List.getElem?_eq_some_iff.mp a).1
        rw [List.getElem?_append_left (by simpa using hi), List.getElem?_map, a]
        rfl
      have ch : ∀ i : Nat, ∃ L : List Addr, ∀ d, gt (ent N.length ds) i = some d → ∃ v, (L2.start N vs)[i]? = some (some v) ∧ Rp S H v d L := fun i => by
        cases h : gt (ent N.length ds) i with
        | none => exact ⟨[], fun d z => nomatch z⟩
        | some d =>
          obtain ⟨v, L', a, b⟩ := get i d h
          exact ⟨L', fun d' z => by cases z; exact ⟨v, a, b⟩⟩
      obtain ⟨Λ, hΛ⟩ := Classical.axiomOfChoice ch
      exact ⟨Λ, fun i d h => hΛ i d h, fun i d h => (ent_now h).elim⟩
  refine ⟨S, _, H, ent N.length ds, st, o, s1, rs, so, e1, ?_⟩
  have wx : ∀ {H' : Hp}, HE (fun b => H b = none ∨ b = S.dA) H H' → Ext S H H' := fun {H'} x => ⟨x.tup, fun b xs n e => x.lst b xs (fun z => z.elim (fun z => by rw [z] at e; cases e) n) e, x.new, x.dk, x.fz⟩
  cases o with
  | nx δ =>
    obtain ⟨e3, e4⟩ := ret_inv e2
    subst e3 e4
    exact fun σ' H' r' s' => q .non H' [] (wx r'.he) s' .non
  | rt d2 =>
    obtain ⟨e3, e4⟩ := ret_inv e2
    subst e3 e4
    exact fun v H' L' x' s' r' => q v H' L' (wx x') s' r'
  | bk => cases e2
  | ct => cases e2
end
/-- f(..), an own def -/
def eFn (F : List D → M D) (fs : Ev → M (List D)) : FE := fun δ => (fs δ).bd F
section
variable {X : Cx} {CX : CXT} {k n : Nat} {f : Addr} {fd : FuncData} {ps : List Str} {F : List D → M D} {E : XK} {x : Str} {p pos : Pos} {e : Expr} {es : List Expr} {fs : Ev → M (List D)}
theorem d_fn (G : FnOk X.prog X.w X.K X.mg X.base CX k f fd ps (spD n F)) (hr : Room k X.A) (hg : Gl X x) (hm : X.mg x = some (.ref f)) (hk : PySem.W.keepIn X.K (.ref f) = true) (hb : Binds X.K fd ps []) (hx : Passes CX X E)
    (ha : DA X (e :: es) fs) (hn : (e :: es).length = n := by rfl) (hdb : (x == ("__debug__" : Str)) = false := by decide) (he : starEach (e :: es) X.env = (false, eval e X.env) :: starEach es X.env := by rfl) (hpl : (backTo pos (starEach es X.env)).any (·.1) = false := by rfl) :
    DE X (.Call (.Name x p) (e :: es) [] pos) (eFn (fun ds => if ds.length = n then F ds else M.no) fs) := (pe_call G hr hg hm hk hb .nil hx ha hdb he hpl).imp fun σ H Q ⟨S, δ, st, d, st', rs, so, e, q⟩ => by
  obtain ⟨ds, s1, ea, e⟩ := bd_inv e
  refine ⟨S, δ, st, ds, s1, rs, so, ea, fun vs H1 L1 x1 so1 r1 => ?_⟩
  by_cases hl : ds.length = n
  · rw [if_pos hl] at e
    exact ⟨S, ds, L1, s1, d, st', by rw [List.append_nil]; exact r1, hl, so1, e, fun v H' L' x' so' r' => q v H' L' (x1.trans x') so' r'⟩
  · rw [if_neg hl] at e; cases e
end
end DL
set_option Elab.async false
set_option linter.all false
set_option maxRecDepth 100000
set_option maxHeartbeats 4000000
/-! DL6: isinstance, chains, min of three, slices backwards, count, written dicts of texts. -/
namespace DL
open PySem PySem.Spec PyProof.Rows L2

/-! ### isinstance -/
def tyn : D → Option String
  | .non => some "NoneType"
  | .bl _ => some "bool"
  | .int _ => some "int"
  | .str _ => some "str"
  | .tup _ => some "tuple"
  | .lst _ => some "list"
  | .tupk _ => some "tuple"
  | _ => none
def isTy (n T : String) : Bool := n == T || (n == "bool" && T == "int")
def isiD (T : String) (d : D) : Option D := (tyn d).map fun n => .bl (isTy n T)
theorem Rp.ty {K : PySem.W.Frag} {S : Sr} {H : Hp} {v : V} {d : D} {L : List Addr} {n : String} (r : Rp S H v d L) (h : tyn d = some n) : TyX K H v (.type n) := by
  cases r with
  | non => cases h; exact .base .non
  | bl b => cases h; exact .base (.bl b)
  | int i => cases h; exact .base (.int i)
  | str x => cases h; exact .base (.str x)
  | tup e _ => cases h; exact .base (.tup e)
  | lst e _ _ => cases h; exact .base (.lst e)
  | src => cases h
  | dct => cases h
  | tupk e _ _ => cases h; exact .fTuple e
theorem kit_all {T : String} (h : (["NoneType", "bool", "int", "str", "tuple", "list"].all fun n => decide (kitB n T = some (isTy n T))) = true) {d : D} {n : String} (hn : tyn d = some n) : kitB n T = some (isTy n T) := by
  have hm : n ∈ ["NoneType", "bool", "int", "str", "tuple", "list"] := by
    cases d <;> cases hn <;> simp
  exact of_decide_eq_true (List.all_eq_true.mp h n hm)
section
variable {X : Cx} {e a b c : Expr} {es : List Expr} {f g h : FE} {fs : Ev → M (List D)} {pos : Pos}
theorem d_isi {T : Str} {n : String} {p p2 pos : Pos} (hg : Gl X "isinstance") (hm : X.mg "isinstance" = none) (hg2 : Gl X T) (hm2 : X.mg T = none) (hv2 : bootBuiltins T = some (.type n)) (he : DE X e f)
    (hk : (["NoneType", "bool", "int", "str", "tuple", "list"].all fun m => decide (kitB m n = some (isTy m n))) = true := by decide +kernel) (hn2 : T ≠ "__name__" := by decide) (hd2 : (T == ("__debug__" : Str)) = false := by decide)
    (hs : starEach [e, .Name T p2] X.env = (false, eval e X.env) :: starEach [.Name T p2] X.env := by rfl) (hs2 : starEach [.Name T p2] X.env = (false, eval (.Name T p2) X.env) :: starEach [] X.env := by rfl) (hpl : (backTo pos (starEach [.Name T p2] X.env)).any (·.1) = false := by rfl) :
    DE X (.Call (.Name "isinstance" p) [e, .Name T p2] [] pos) (e1 (isiD n) f) :=
  (pe_callB call_isi hg hm boot_isinstance (pa_cons he (pa_cons (pe_bltn hg2 hm2 hv2 (show RelV (.ty n) _ from rfl) hn2 hd2) pa_nil hs2) hs) (by decide) (by decide) hs hpl).imp fun σ H Q ⟨S, δ, st, d, st', rs, so, e, q⟩ => by
  obtain ⟨x, s1, ea, e3⟩ := bd_inv e
  obtain ⟨eo, es⟩ := of_inv e3
  clear e3
  subst es
  obtain ⟨m, e1, e2⟩ := Option.map_eq_some_iff.mp (show (tyn x).map (fun m => D.bl (isTy m n)) = some d from eo)
  subst e2
  exact ⟨S, δ, st, x, _, rs, so, ea, fun v H1 L x1 so1 r => ⟨v, .ty n, .type m, .type n, isTy m n, rfl, ClsV.ty n, r.ty e1, kit_ty (kit_all hk e1), q _ H1 [] x1 so1 (.bl _)⟩⟩

/-! ### chains of comparisons -/
def eCh (o o' : D → D → Option D) (f g h : FE) : FE := fun δ => (f δ).bd fun x => (g δ).bd fun y => (M.of (o x y)).bd fun z => match z with
  | .bl true => (h δ).bd fun u => M.of (o' y u)
  | .bl false => M.ret (.bl false)
  | _ => M.no
theorem tch_imp {o o' : D → D → Option D} : ∀ σ H Q, tD (eCh o o' f g h) σ H Q → tChain (rD2 o) (rD2 o') (tD f) (tD g) (tD h) σ H Q := fun σ H Q ⟨S, δ, st, d, st', rs, so, e, q⟩ => by
  obtain ⟨x, s1, ea, e2⟩ := bd_inv e
  obtain ⟨y, s2, eb, e3⟩ := bd_inv e2
  obtain ⟨z, s3, ec, e4⟩ := bd_inv e3
  obtain ⟨eo, es⟩ := of_inv ec
  clear ec e3 e2 e
  subst es
  refine ⟨S, δ, st, x, s1, rs, so, ea, fun v H1 L1 x1 so1 r1 => ⟨S, δ, s1, y, _, rs.extS x1, so1, eb, fun w H2 L2' x2 so2 r2 => ⟨S, x, y, z, L1, L2', so2.tr, r1.extS x2, r2, eo, fun zv H3 L3 x3 r3 => ?_⟩⟩⟩
  cases z with
  | bl k =>
    obtain ⟨rfl, rfl⟩ := r3.ibl
    refine ⟨k, rfl, ?_⟩
    cases k with
    | true =>
      obtain ⟨u, s4, eu, e5⟩ := bd_inv e4
      obtain ⟨eo2, es2⟩ := of_inv e5
      clear e5 e4
      subst es2
      refine iteT ⟨S, δ, _, u, _, rs.extS (x1.trans (x2.trans x3.up0)), so2.ext0 x3, eu, fun uv H4 L4 x4 so4 r4 => ⟨S, y, u, d, L2', L4, so4.tr, (r2.ext0 x3).extS x4, r4, eo2, fun dv H5 L5 x5 r5 => q dv H5 L5 (x1.trans (x2.trans ((x3.up0 : Ext S H2 H3).trans (x4.trans x5.up0)))) (so4.ext0 x5) r5⟩⟩
    | false =>
      obtain ⟨e5, e6⟩ := ret_inv e4
      subst e5 e6
      exact iteF (q _ H3 [] (x1.trans (x2.trans x3.up0)) (so2.ext0 x3) (.bl false))
  | _ => cases e4
theorem d_chain {op op' : CmpOp} {o o' : D → D → Option D} (ho : OpR X (compareOp op) (rD2 o)) (ho' : OpR X (compareOp op') (rD2 o')) (ha : DE X a f) (hb : DE X b g) (hc : DE X c h)
    (hm : lastMarks [op, op'] [b, c] = false := by with_unfolding_all rfl) : DE X (.Compare a [op, op'] [b, c] pos) (eCh o o' f g h) := (pe_chain ho ho' ha hb hc hm).imp tch_imp
theorem dt_chain {op op' : CmpOp} {o o' : D → D → Option D} (ho : OpR X (compareOp op) (rD2 o)) (ho' : OpR X (compareOp op') (rD2 o')) (ha : DE X a f) (hb : DE X b g) (hc : DE X c h)
    (hm : lastMarks [op, op'] [b, c] = false := by with_unfolding_all rfl) : DT X (.Compare a [op, op'] [b, c] pos) (bOf (eCh o o' f g h)) := (pt_chain ho ho' ha hb hc hm).imp fun σ H Q w => by
  obtain ⟨S, δ, st, d, st', rs, so, e, q⟩ := tB_of σ H Q w
  exact tch_imp σ H _ ⟨S, δ, st, d, st', rs, so, e, q⟩

/-! ### min of three -/
def bMin3 : List D → Option D
  | [.int a, .int b, .int c] => some (.int (if b < a then (if c < b then c else b) else (if c < a then c else a)))
  | _ => none
theorem b_min3 (hc : X.calm = true) : CallR X (.builtin "min") (rDs bMin3) := by
  intro pins s σ H xs us Q I r ⟨S, ds, d, La, hn, rs, e, q⟩
  match ds, e with
  | [.int i, .int j, .int k], e =>
    cases e
    obtain ⟨v, u, w, _, _, _, rfl, r1, r2, r3⟩ := rs.i3
    obtain ⟨rfl, rfl⟩ := r1.iint
    obtain ⟨rfl, rfl⟩ := r2.iint
    obtain ⟨rfl, rfl⟩ := r3.iint
    cases r with
    | cons p1 r =>
      obtain ⟨u2, u3, rfl, p2, p3⟩ := vals2 r
      obtain ⟨t1, rfl⟩ := p1
      obtain ⟨t2, rfl⟩ := p2
      obtain ⟨t3, rfl⟩ := p3
      refine min_three_ints (I.ok.hd hc) fun h' tk kk => ⟨_, H, I.kept kk, ?_, q _ _ _ HE.refl (.int _)⟩
      by_cases h1 : j < i
      · rw [if_pos h1, if_pos h1]
        by_cases h2 : k < j
        · rw [if_pos h2, if_pos h2]; exact ⟨_, rfl⟩
        · rw [if_neg h2, if_neg h2]; exact ⟨_, rfl⟩
      · rw [if_neg h1, if_neg h1]
        by_cases h2 : k < i
        · rw [if_pos h2, if_pos h2]; exact ⟨_, rfl⟩
        · rw [if_neg h2, if_neg h2]; exact ⟨_, rfl⟩

/-! ### xs[::-1], t[::-1] -/
theorem Rps.rev {S : Sr} {H : Hp} {vs : List V} {ds : List D} {L : List Addr} (r : Rps S H vs ds L) : ∃ L', Rps S H vs.reverse ds.reverse L' := by
  refine Rps.mk (by simp [r.len]) fun i d v h1 h2 => ?_
  have hi : i < ds.length := by simpa using (List.getElem?_eq_some_iff.mp h1).1
  rw [List.getElem?_reverse hi] at h1
  rw [List.getElem?_reverse (by rw [r.len]; exact hi), r.len] at h2
  obtain ⟨w, L', e1, e2, _⟩ := r.get h1
  rw [h2] at e1
  cases e1
  exact ⟨L', e2⟩
def eRevL (f : FE) : FE := e1 (fun d => match d with | .lst xs => some (.lst xs.reverse) | _ => none) f
theorem d_revL {k : Nat} {p1 p2 p3 : Pos} (he : DE X e f) : DE X (.Subscript e (.Slice none none (some (.UnaryOp .USub (.Constant (.int 1) k p1) p2)) p3) pos) (eRevL f) := (pe_revL he).imp fun σ H Q ⟨S, δ, st, d, st', rs, so, e, q⟩ => by
  obtain ⟨x, s1, ea, e3⟩ := bd_inv e
  obtain ⟨eo, es⟩ := of_inv e3
  clear e3
  subst es
  refine ⟨S, δ, st, x, _, rs, so, ea, fun v H1 L x1 so1 r => ?_⟩
  cases x with
  | lst xs =>
    cases eo
    obtain ⟨a, vs, L1, rfl, ha, na, rs', rfl⟩ := r.ilst
    obtain ⟨L', rr⟩ := rs'.rev
    exact ⟨a, vs, rfl, SqL.of ha, fun p np => q _ _ _ (x1.trans (HE.fresh np)) (so1.ext0 (HE.fresh np)) (.lst upd_same (fun z => so1.tr _ z np) (rr.ext0 (HE.fresh np)))⟩
  | _ => cases eo
theorem pick_back (xs : Array Value) : ((List.range xs.size).filterMap fun (m : Nat) => xs[((xs.size : Int) - 1 + (m : Int) * (-1)).toNat]?) = xs.toList.reverse := by
  have e : ∀ m ∈ List.range xs.size, xs[((xs.size : Int) - 1 + (m : Int) * (-1)).toNat]? = some (xs.toList.reverse.getD m default) := fun m hm => by
    have hm' : m < xs.size := List.mem_range.mp hm
    have h1 : ((xs.size : Int) - 1 + (m : Int) * (-1)).toNat = xs.size - 1 - m := by omega
    have h2 : xs.size - 1 - m < xs.size := by omega
    rw [h1, List.getD_eq_getElem?_getD, List.getElem?_reverse (by simpa using hm'), Array.getElem?_eq_getElem h2]
    rw [Array.length_toList, Array.getElem?_toList, Array.getElem?_eq_getElem h2]
    rfl
  have e2 : (List.range xs.size).filterMap (fun (m : Nat) => xs[((xs.size : Int) - 1 + (m : Int) * (-1)).toNat]?) = (List.range xs.size).map fun m => xs.toList.reverse.getD m default := by
    have gen : ∀ l : List Nat, (∀ m ∈ l, xs[((xs.size : Int) - 1 + (m : Int) * (-1)).toNat]? = some (xs.toList.reverse.getD m default)) → l.filterMap (fun (m : Nat) => xs[((xs.size : Int) - 1 + (m : Int) * (-1)).toNat]?) = l.map fun m => xs.toList.reverse.getD m default := by
      intro l
      induction l with
      | nil => intro _; rfl
      | cons m l ih =>
        intro h
        rw [List.filterMap_cons, h m List.mem_cons_self, List.map_cons, ih fun k hk => h k (List.mem_cons_of_mem _ hk)]
    exact gen _ e
  rw [e2]
  refine List.ext_getElem (by simp) fun i h1 h2 => ?_
  have hi : i < xs.toList.reverse.length := h2
  simp only [List.getElem_map, List.getElem_range]
  rw [List.getD_eq_getElem?_getD, List.getElem?_eq_getElem hi]
  rfl
theorem tup_back {s : Shared} {prog : Program} {w : World} {A : Around} {E : Value → Shared → Prop} {t sl : Addr} {items : Array Value} {tk : Tok} {Q : Value → Shared → Prop} (ht : IsTup s.heap t items) (hs : s.heap.IsSliceOf sl .none .none (.int (-1) tk))
    (h : Q (.ref s.heap.objs.size) { s with heap := s.heap.push { cls := .type "tuple", data := .seq items.toList.reverse.toArray } }) (hsz : items.size ≤ sizeLine) : wpAny (model prog w) A (getItem (.ref t) (.ref sl)) Q E s := by
  have hrv : sizeOk (.seq items.toList.reverse.toArray) := by
    show items.toList.reverse.toArray.size ≤ sizeLine
    rw [List.size_toArray, List.length_reverse, Array.length_toList]
    exact hsz
  obtain ⟨os, hos, hcs, hds⟩ := id hs
  have hTs : s.TypeIs (.ref sl) "slice" := ⟨os, hos, hcs⟩
  unfold getItem
  try with_reducible refine wpAny_holding ?_
  first | refine wpAny_bind (wpAny_pure ?_) | skip
  refine wpAny_bind (wpAny_sequenceKey ht.typeIs (by decide) (wpAny_bind (wpAny_callSpecial?_slot (name := Str.ofString "__getitem__") ht.typeIs PyProof.Rows.slot_tuple_getitem (wpAny_call_entry PyProof.Rows.slot_tuple_getitem ht.typeIs entry_tuple_getitem ?_ (args_tuple_getitem _ _)))))
  show wpAny _ _ (Builtin.Tuple.tupleItemsOf (.ref t) >>= _) _ _ s
  refine wpAny_bind (tupleItemsOf_ ht (wpAny_bind (wpAny_typeOf hTs ?_)))
  rw [if_pos (by decide)]
  have app : ∀ {Q' : Int × Int × Nat → Shared → Prop} {A' : Around} {E' : Value → Shared → Prop}, Q' ((items.size : Int) - 1, -1, items.size) s → wpAny (model prog w) A' (Builtin.Slice.sliceApplied (.ref sl) (pure (items.size : Int))) Q' E' s := fun {Q' A' E'} hq => by
    unfold Builtin.Slice.sliceApplied Builtin.Slice.sliceFields
    refine wpAny_bind (wpAny_bind (wpAny_field hos hds (x := .none) rfl (wpAny_bind (wpAny_field hos hds (x := .none) rfl (wpAny_bind (wpAny_field hos hds (x := .int (-1) tk) rfl (wpAny_pure ?_)))))))
    refine wpAny_bind (slicePart_int ?_)
    show wpAny _ _ (if ((-1 : Int) == 0) = true then _ else _) _ _ s
    rw [if_neg (by decide)]
    refine wpAny_bind (slicePart_none (wpAny_bind (slicePart_none (wpAny_bind (wpAny_pure ?_)))))
    have e1 : Builtin.Slice.sliceAdjust none none (-1) (items.size : Int) = ((items.size : Int) - 1, -1) := rfl
    have e2 : Builtin.Slice.slicePlaces ((items.size : Int) - 1) (-1) (-1) = items.size := by
      unfold Builtin.Slice.slicePlaces
      rw [if_neg (by decide)]
      by_cases hz : (items.size : Int) - 1 > -1
      · rw [if_pos hz]
        have : ((items.size : Int) - 1 - -1 - 1) / (- -1) + 1 = items.size := by
          rw [show (- -1 : Int) = 1 by decide, Int.ediv_one]; omega
        rw [this]; rfl
      · rw [if_neg hz]; omega
    show wpAny _ _ (match Builtin.Slice.sliceAdjust none none (-1) (items.size : Int) with | (lo, hi) => pure (lo, (-1 : Int), Builtin.Slice.slicePlaces lo hi (-1))) _ _ s
    rw [e1]
    show wpAny _ _ (pure ((items.size : Int) - 1, (-1 : Int), Builtin.Slice.slicePlaces ((items.size : Int) - 1) (-1) (-1))) _ _ s
    rw [e2]
    exact wpAny_pure hq
  refine wpAny_bind (app ?_)
  show wpAny _ _ (if ((items.size : Int) - 1 == 0 && (-1 : Int) == 1 && items.size == items.size) = true then _ else _) _ _ s
  rw [if_neg (by rw [show ((-1 : Int) == 1) = false from rfl, Bool.and_false, Bool.false_and]; exact Bool.false_ne_true), pick_back]
  first
    | exact wpAny_bind (m := Builtin.Tuple.tupleExact _) (wpAny_newObj_type (wpAny_pure ⟨_, rfl, wpAny_pure h⟩) hrv)
    | exact wpAny_bind (m := Builtin.Tuple.tupleExact _) (wpAny_newObj_type (wpAny_bind (wpAny_pure (wpAny_pure ⟨_, rfl, wpAny_pure h⟩))) hrv)
    | exact wpAny_bind (wpAny_bind (m := Builtin.Tuple.tupleExact _) (wpAny_newObj_type (wpAny_pure (wpAny_pure ⟨_, rfl, wpAny_pure h⟩)) hrv))
    | exact wpAny_bind (wpAny_bind (m := Builtin.Tuple.tupleExact _) (wpAny_newObj_type (wpAny_pure ⟨_, rfl, wpAny_pure h⟩) hrv))
def tRevT (K : PySem.W.Frag) (te : TE) : TE := fun σ H Q => te σ H fun x H1 => ∃ a xs, x = .ref a ∧ SqT K H1 a xs ∧ ∀ p, H1 p = none → Q (.ref p) (upd H1 p (.tup xs.reverse))
theorem pe_revT {te : TE} {k : Nat} {p1 p2 p3 : Pos} (he : PE X e te) : PE X (.Subscript e (.Slice none none (some (.UnaryOp .USub (.Constant (.int 1) k p1) p2)) p3) pos) (tRevT X.K te) := by
  refine ⟨fun pins s σ H Q I h => (Subscript_ (thn (he.run pins s σ H _ I h) fun v s1 ⟨x, H1, I1, r1, q1⟩ => ?_))⟩
  obtain ⟨a, xs, ex, hx, q⟩ := q1
  subst ex
  cases r1
  have hst : PO X (some (.UnaryOp .USub (.Constant (.int 1) k p1) p2)) (tPart (tUn (rU fun i => .int (-i)) (tC (.int 1)))) := (po_some (pe_un un_neg pe_int))
  refine wpAny_Slice (thn (po_none.run pins s1 σ H1 (fun o G => o = none ∧ G = H1) I1 ⟨rfl, rfl⟩) fun vl s2 ⟨l, H2, I2, pl, el, e2⟩ => ?_)
  subst el e2
  refine thn (po_none.run pins s2 σ H2 (fun o G => o = none ∧ G = H2) I2 ⟨rfl, rfl⟩) fun vu s3 ⟨u, H3, I3, pu, eu, e3⟩ => ?_
  subst eu e3
  refine thn (hst.run pins s3 σ H3 (fun o G => o = some (-1) ∧ G = H3) I3 ⟨1, rfl, -1, rfl, rfl, rfl⟩) fun vs s4 ⟨o, H4, I4, ps, eo, e4⟩ => ?_
  subst eo e4
  have I5 : Inv X pins σ H4 { s4 with heap := s4.heap.push { cls := .type "slice", data := .fields #[vl, vu, vs] } } := I4.kept (t' := s4.toks) (fun b ob q => Heap.get?_push_of_some _ q)
  obtain ⟨its, r, ht, hz⟩ := I5.tuple hx
  have hlen := r.length
  show wpAny (model X.prog X.w) X.A (subscriptTail e (.Slice none none (some (.UnaryOp .USub (.Constant (.int 1) k p1) p2)) p3) (.ref a) (.ref s4.heap.objs.size)) (EP X pins σ Q) X.xe { s4 with heap := s4.heap.push { cls := .type "slice", data := .fields #[vl, vu, vs] } }
  cases pl
  cases pu
  cases ps with
  | int i t =>
    refine tail_any (ops := [.ref a, .ref s4.heap.objs.size]) ht.typeIs (PyProof.Rows.slot_tuple_getitem.lookup) ?_ (by with_unfolding_all rfl)
    refine tup_back ht (Heap.IsSliceOf.new _ .none .none (.int (-1) t)) ?_ (by rw [List.size_toArray]; omega)
    refine ⟨.ref _, _, I5.laid (t' := s4.toks) (o := .tup xs.reverse) (fun b ob q => Heap.get?_push_of_some _ q) (Nat.le_refl _) ?_, rfl, q _ (I5.hok.fresh (Nat.le_refl _))⟩
    exact ⟨by rw [List.length_reverse]; exact hz, _, r.reverse, ⟨_, Heap.get?_push_size _ rfl, rfl, 0, by simp⟩⟩
def eRevT (f : FE) : FE := e1 (fun d => match d with | .tup xs => some (.tup xs.reverse) | _ => none) f
theorem d_revT {k : Nat} {p1 p2 p3 : Pos} (he : DE X e f) : DE X (.Subscript e (.Slice none none (some (.UnaryOp .USub (.Constant (.int 1) k p1) p2)) p3) pos) (eRevT f) := (pe_revT he).imp fun σ H Q ⟨S, δ, st, d, st', rs, so, e, q⟩ => by
  obtain ⟨x, s1, ea, e3⟩ := bd_inv e
  obtain ⟨eo, es⟩ := of_inv e3
  clear e3
  subst es
  refine ⟨S, δ, st, x, _, rs, so, ea, fun v H1 L x1 so1 r => ?_⟩
  cases x with
  | tup xs =>
    cases eo
    obtain ⟨a, vs, rfl, ha, rs'⟩ := r.itup
    obtain ⟨L', rr⟩ := rs'.rev
    exact ⟨a, vs, rfl, SqT.of ha, fun p np => q _ _ _ (x1.trans (HE.fresh np)) (so1.ext0 (HE.fresh np)) (.tup upd_same (rr.ext0 (HE.fresh np)))⟩
  | _ => cases eo

/-! ### t.count(x) -/
theorem pys_plain : ∀ {ds : List D} {n : Nat}, (∀ x ∈ ds, dOk n x = true) → PyData.plainAll (pys ds) = true
  | [], _, _ => rfl
  | d :: ds, n, h => by
    rw [pys, PyData.plainAll, pys_plain (fun x hx => h x (List.mem_cons_of_mem _ hx)), PyData.plain_of_canLay0 _ (dOk_ok n d (h d List.mem_cons_self)).1]
    rfl
theorem pys_depth : ∀ {ds : List D} {n : Nat}, (∀ x ∈ ds, dOk n x = true) → PyData.depthAll (pys ds) ≤ n
  | [], _, _ => Nat.zero_le _
  | d :: ds, n, h => by
    have h1 := (dOk_ok n d (h d List.mem_cons_self)).2
    have h2 := pys_depth (fun x hx => h x (List.mem_cons_of_mem _ hx))
    rw [pys, PyData.depthAll]
    omega
theorem pys_count {x : D} : ∀ (ds : List D), (pys ds).countP (fun y => PyData.eqv y x.py) = ds.countP fun y => y.eqv x
  | [] => rfl
  | d :: ds => by
    rw [pys, List.countP_cons, List.countP_cons, pys_count ds]
    rfl
def mCount : D → D → Option D
  | .tupk ds, x => if (ds.all (dOk 8) && dOk 8 x) = true then some (.int ((ds.countP fun y => y.eqv x : Nat) : Int)) else none
  | _, _ => none
theorem pe_count {o : Expr} {te : TE} {t : TA} {apos cpos : Pos} (ho : PE X o te) (ha : PA X [e] t)
    (hbase : attributeBase o "count" X.env (eval o X.env) = eval o X.env := by rfl)
    (hfew : ((backTo cpos (starEach [e] X.env)).all (fun x => !x.1) && (backToKw cpos (keywordEach [] X.env)).all (fun x => x.1.isSome) && decide (([e] : List Expr).length + ([] : List Keyword).length + (if ([] : List Keyword).isEmpty then 0 else 1) < 30)) = true := by rfl)
    (hline : (apos.endLine == cpos.line) = true := by rfl) (hs : starEach [e] X.env = (false, eval e X.env) :: starEach [] X.env := by rfl) (hplain : (backTo cpos (starEach [] X.env)).any (·.1) = false := by rfl) (hu : X.A.units + 64 < cLine) :
    PE X (.Call (.Attribute o "count" apos) [e] [] cpos) (fun σ H Q => te σ H fun x H1 => ∃ p ob vs, x = .ref p ∧ H1 p = some (.frz ob (.tup vs)) ∧ ob.dict = none ∧ t σ H1 fun xs H2 => ∃ S ds b d v L', xs = [v] ∧ (∃ L vs', H2 p = some (.frz ob (.tup vs')) ∧ Rps S H2 vs' ds L) ∧ Rp S H2 v b L' ∧ mCount (.tupk ds) b = some d ∧ ∀ u, Rp S H2 u d [] → Q u H2) := by
  refine ⟨fun pins s σ H Q I h => (wpAny_Call_method_late hbase hfew hline rfl (thn (ho.run pins s σ H _ I h) fun v s1 ⟨x, H1, I1, r1, p, ob, vs, ex, hp, hd, q1⟩ => ?_))⟩
  subst ex
  obtain rfl : v = Value.ref p := r1
  obtain ⟨hob, _, its, rv, o', ho', hc, _⟩ := (show ObjOk X.prog X.w H1 s1.heap p (.frz ob (.tup vs)) from I1.hok p _ hp)
  rw [hob] at ho'
  cases ho'
  refine ⟨"tuple", "tuple.count", PySem.F.plainAttrs_tuple, PySem.F.slot_tuple_count, PySem.F.type_tuple_count, ⟨ob, hob, hc⟩, fun a ea => by cases ea; exact ⟨ob, hob, hd⟩, ?_⟩
  have hA := ha.run cpos pins s1 σ H1 _ I1 q1
  rw [hs] at hA ⊢
  refine Calls.callWith_builtin (by show (false || (backTo cpos (starEach [] X.env)).any (·.1)) = false; rw [hplain] <;> rfl) (Calls.evalArgs_plain (thn hA fun us s2 ⟨xs, H2, I2, r2, S, ds, b, d, v, L', ex, ⟨L, vs', hp2, rr⟩, rb, e, q⟩ => ?_))
  subst ex
  have e : (if (ds.all (dOk 8) && dOk 8 b) = true then some (D.int ((ds.countP fun y => y.eqv b : Nat) : Int)) else none) = some d := e
  by_cases hk : (ds.all (dOk 8) && dOk 8 b) = true
  · rw [if_pos hk] at e
    cases e
    rw [Bool.and_eq_true] at hk
    obtain ⟨h1, h2⟩ := hk
    have h1' := List.all_eq_true.mp h1
    obtain ⟨u, rfl, ru⟩ := vals1 r2
    have hq : SqT X.K H2 p vs' := .inl (.inr ⟨_, hp2⟩)
    obtain ⟨its2, rv2, ht, hz⟩ := I2.tuple hq
    obtain ⟨as, q1⟩ := Dp.readsAll (X := X) I2 (pys ds) vs' its2 (rr.dp 8 h1') rv2
    obtain ⟨bs, q2⟩ := Dp.reads (X := X) I2 b.py v u (rb.dp 8 h2) ru
    refine PySem.SeqAt.count_tuple_data (show s2.heap.IsTuple p its2.toArray from ht) (by simpa using q1) q2 (pys_plain h1') (PyData.plain_of_canLay0 _ (dOk_ok 8 b h2).1) ?_ ?_
    · have := pys_depth h1'
      omega
    · rw [pys_count]
      exact ⟨.int ((ds.countP fun y => y.eqv b : Nat) : Int), H2, I2.tok _, ⟨_, rfl⟩, q _ (.int _)⟩
  · rw [if_neg hk] at e; cases e
theorem d_count {o : Expr} {apos cpos : Pos} (hu : X.A.units + 64 < cLine) (ho : DE X o f) (he : DE X e g)
    (hbase : attributeBase o "count" X.env (eval o X.env) = eval o X.env := by rfl)
    (hfew : ((backTo cpos (starEach [e] X.env)).all (fun x => !x.1) && (backToKw cpos (keywordEach [] X.env)).all (fun x => x.1.isSome) && decide (([e] : List Expr).length + ([] : List Keyword).length + (if ([] : List Keyword).isEmpty then 0 else 1) < 30)) = true := by rfl)
    (hline : (apos.endLine == cpos.line) = true := by rfl) (hst : starEach [e] X.env = (false, eval e X.env) :: starEach [] X.env := by rfl) (hplain : (backTo cpos (starEach [] X.env)).any (·.1) = false := by rfl) :
    DE X (.Call (.Attribute o "count" apos) [e] [] cpos) (e2 mCount f g) := (pe_count ho (pa_cons he pa_nil hst) hbase hfew hline hst hplain hu).imp fun σ H Q ⟨S, δ, st, d, st', rs, so, e, q⟩ => by
  obtain ⟨x, s1, ea, e3⟩ := bd_inv e
  obtain ⟨y, s2, eb, e4⟩ := bd_inv e3
  obtain ⟨eo, es⟩ := of_inv e4
  clear e4 e3
  subst es
  refine ⟨S, δ, st, x, s1, rs, so, ea, fun v H1 L1 x1 so1 r1 => ?_⟩
  cases x with
  | tupk ds =>
    obtain ⟨p, ob, vs, rfl, hp, hd, rr⟩ := r1.itupk
    exact ⟨p, ob, vs, rfl, hp, hd, S, δ, s1, y, _, rs.extS x1, so1, eb, fun w H2 L2' x2 so2 r2 => ⟨S, ds, y, d, w, L2', rfl, ⟨_, vs, x2.fz _ _ _ hp, rr.extS x2⟩, r2, eo, fun u ru => q u H2 [] (x1.trans x2) so2 ru⟩⟩
  | _ => cases eo
/-- tuple(a list), its object known -/
def bTupk : List D → Option D
  | [.lst ds] => some (.tupk ds)
  | _ => none
theorem b_tupk : CallR X (.type "tuple") (rDs bTupk) := by
  intro pins s σ H xs us Q I r ⟨S, ds, d, La, hn, rs, e, q⟩
  match ds, e with
  | [.lst ds], e =>
    cases e
    obtain ⟨v, rfl, rv⟩ := rs.i1
    obtain ⟨a, vs, L1, rfl, ea, na, rs', rfl⟩ := rv.ilst
    obtain ⟨u, rfl, rx⟩ := vals1 r
    cases rx
    obtain ⟨its, r', pl, hz⟩ := I.list (SqL.of (K := X.K) ea)
    have hlen := r'.length
    refine call_tuple_list pl.isList (fun h' kp => ?_) (by simp only [List.size_toArray] <;> omega)
    have I1 : Inv X pins σ H { s with heap := h' } := I.kept (t' := s.toks) kp
    have np := I1.hok.fresh (Nat.le_refl h'.objs.size)
    have I2 : Inv X pins σ (upd H h'.objs.size (.frz { cls := .type "tuple", data := .seq its.toArray } (.tup vs))) { s with heap := h'.push { cls := .type "tuple", data := .seq its.toArray } } :=
      I1.laid (t' := s.toks) (fun b o e => Heap.get?_push_of_some _ e) (Nat.le_refl _) ⟨Heap.get?_push_size _ rfl, hz, its, r', IsTup.new _ _⟩
    exact ⟨.ref h'.objs.size, _, I2, rfl, q _ _ _ (HE.fresh np) (.tupk upd_same rfl (rs'.ext0 (HE.fresh np)))⟩

/-! ### a written dict of texts -/
theorem pairs_imp {kvs : List (Str × Str)} {σ : L2.St} {H : Hp} {R : List (V × V) → Hp → Prop} (h : R (kvs.map fun p => (V.str p.1, V.str p.2)) H) : tPairs (kvs.map fun p => (tC (.str p.1), tC (.str p.2))) σ H R := by
  induction kvs generalizing R with
  | nil => exact h
  | cons p kvs ih => exact ih (R := fun ps H3 => R ((V.str p.1, V.str p.2) :: ps) H3) h
theorem d_dct {keys : List (Option Expr)} {values : List Expr} (kvs : List (Str × Str)) (h : PPs X pos keys values (kvs.map fun p => (tC (.str p.1), tC (.str p.2)))) (hall : keys.all (·.isSome) = true := by rfl) (hl : keys.length = values.length := by rfl) (h0 : keys ≠ [] := by exact fun z => nomatch z)
    (h15 : keys.length ≤ 15 := by decide) (hk : kvs.length ≤ 15 := by decide) (hm : mergeK [] (kvs.map fun p => ((Sum.inr p.1 : Key), V.str p.2)) = kvs.map fun p => ((Sum.inr p.1 : Key), V.str p.2) := by decide +kernel) :
    DE X (.Dict keys values pos) (eC (.dct kvs)) := (pe_disp h hall hl h0 h15).imp fun σ H Q ⟨S, δ, st, d, st', rs, so, e, q⟩ => fun p np => pairs_imp (by
  obtain ⟨e1, e2⟩ := ret_inv e
  subst e1 e2
  refine ⟨upd_same, kvs.map fun p => ((Sum.inr p.1 : Key), V.str p.2), by simp [kV], by simpa using hk, ?_⟩
  rw [hm, upd_upd]
  exact q _ _ [] (HE.fresh np) (so.ext0 (HE.fresh np)) (.dct upd_same))
def dGet : D → D → Option D
  | .dct kvs, .str k => (kvs.lookup k).map .str
  | _, _ => none
theorem valV_map {k : Str} : ∀ (kvs : List (Str × Str)), valV (kvs.map fun p => ((Sum.inr p.1 : Key), V.str p.2)) (Sum.inr k) = (kvs.lookup k).map V.str
  | [] => rfl
  | (a, b) :: kvs => by
    have ih := valV_map (k := k) kvs
    unfold valV at ih ⊢
    rw [List.map_cons, List.find?_cons, List.lookup_cons]
    by_cases h : a = k
    · subst h
      simp
    · have h1 : decide ((Sum.inr a : Key) = Sum.inr k) = false := decide_eq_false (fun z => h (Sum.inr.inj z))
      have h2 : (k == a) = false := beq_eq_false_iff_ne.mpr (Ne.symm h)
      simp only [h1, h2]
      exact ih
theorem d_get {o : Expr} (hu : X.A.units + 1 < cLine) (ho : DE X o f) (he : DE X e g) (hs : NoSl e := by intro _ _; rfl) : DE X (.Subscript o e pos) (e2 dGet f g) := (pe_dget hu ho he hs).imp fun σ H Q ⟨S, δ, st, d, st', rs, so, e, q⟩ => by
  obtain ⟨x, s1, ea, e3⟩ := bd_inv e
  obtain ⟨y, s2, eb, e4⟩ := bd_inv e3
  obtain ⟨eo, es⟩ := of_inv e4
  clear e4 e3
  subst es
  refine ⟨S, δ, st, x, s1, rs, so, ea, fun v H1 L1 x1 so1 r1 => ⟨S, δ, s1, y, _, rs.extS x1, so1, eb, fun w H2 L2' x2 so2 r2 => ?_⟩⟩
  have r1' := r1.extS x2
  cases x with
  | dct kvs =>
    cases y with
    | str k =>
      obtain ⟨t, e5, e6⟩ := Option.map_eq_some_iff.mp (show (kvs.lookup k).map D.str = some d from eo)
      subst e6
      obtain ⟨rfl, rfl⟩ := r2.istr
      cases r1' with
      | dct hp =>
        refine ⟨_, .str t, rfl, ?_, q _ H2 [] (x1.trans x2) so2 (.str t)⟩
        have := DGet.k (k := Sum.inr k) hp
        rw [valV_map, e5] at this
        exact this
    | _ => cases eo
  | _ => cases eo
end
end DL
set_option Elab.async false
set_option linter.all false
set_option maxRecDepth 100000
set_option maxHeartbeats 4000000
/-! DL7: a list moved into a list, ranges as lists and tuples, stores into lists of lists. -/
namespace DL
open PySem PySem.Spec PyProof.Rows L2

def dIAdd : D → D → Option D := fun a b => match a, b with | .int i, .int j => some (.int (i + j)) | _, _ => none
def eRepF (f g : FE) : FE := fun δ => (f δ).bd fun x => (g δ).bd fun y => M.of (match x, y with | .lst xs, .int k => dMul (.lst xs) (.int k) | _, _ => none)

section
variable {S : Sr} {W : Addr → Prop} {H0 H H' : Hp} {σ : L2.St} {δ : Ev}
/-- slot j is forgotten: what it owned may go elsewhere -/
theorem RS.drop (r : RS S W H0 H σ δ) (j : Nat) : RS S W H0 H σ (δ.set j .no) where
  len := by simp [r.len]
  he := r.he
  wA := r.wA
  wn := r.wn
  sl := by
    obtain ⟨Λ, h, h2⟩ := r.sl
    have g : ∀ i d, gt (δ.set j .no) i = some d → i ≠ j ∧ gt δ i = some d := fun i d e => by
      rw [gt_set] at e
      by_cases hij : j = i
      · subst hij
        rw [if_pos rfl] at e
        split at e <;> cases e
      · rw [if_neg hij] at e; exact ⟨Ne.symm hij, e⟩
    refine ⟨Λ, fun i d e => h i d (g i d e).2, fun i d e => ?_⟩
    rcases set_ow e with ⟨_, z⟩ | ⟨hj, e⟩
    · cases z
    · obtain ⟨n, w⟩ := h2 i d e
      exact ⟨n, fun a ha => ⟨(w a ha).1, fun k e' hk hg => (w a ha).2 k e' hk (g k e' hg).2⟩⟩
/-- the owned list at slot i takes in what no slot owns -/
theorem RS.wrM {i : Nat} {ds ds' : List D} {a : Addr} {vs vs' : List V} {L L' : List Addr} (r : RS S W H0 H σ δ) (hi : δ[i]? = some (.ow (.lst ds))) (ha : σ[i]? = some (some (.ref a))) (hH : H a = some (.lst vs)) (hr : Rps S H vs ds L)
    (hn : Rps S (upd H a (.lst vs')) vs' ds' L') (nd : L'.Nodup) (hn' : a ∉ L') (hw : ∀ b ∈ L', W b) (fr : ∀ b ∈ L', b ∈ L ∨ ∀ k e u L2, k ≠ i → gt δ k = some e → σ[k]? = some (some u) → Rp S H u e L2 → b ∉ L2) :
    RS S W H0 (upd H a (.lst vs')) σ (δ.set i (.ow (.lst ds'))) := by
  obtain ⟨Λ, h, h2⟩ := r.sl
  obtain ⟨v, e1, rp⟩ := h i _ (gt_ow hi)
  rw [ha] at e1
  cases e1
  obtain ⟨a', vs1, L1, e2, h3, nh, rs1, eL⟩ := rp.ilst
  cases e2
  rw [hH] at h3
  cases h3
  have eL1 := rs1.uniq hr
  subst eL1
  obtain ⟨ndi, hwi⟩ := h2 i _ hi
  rw [eL] at ndi hwi
  have wa : W a := (hwi a List.mem_cons_self).1
  have ilt : i < δ.length := gt_lt (gt_ow hi)
  have apart : ∀ b ∈ a :: L', ∀ k e, k ≠ i → gt δ k = some e → b ∉ Λ k := fun b hb k e hk hg => by
    rcases List.mem_cons.mp hb with z | hb
    · exact (hwi b (z ▸ List.mem_cons_self)).2 k e hk hg
    · rcases fr b hb with z | z
      · exact (hwi b (List.mem_cons_of_mem _ z)).2 k e hk hg
      · obtain ⟨u, p, q⟩ := h k e hg
        exact z k e u _ hk hg p q
  have inW : ∀ b ∈ a :: L', W b := fun b hb => (List.mem_cons.mp hb).elim (fun z => z ▸ wa) (hw b)
  refine ⟨by simp [r.len], r.he.trans (HE.write hH wa), r.wA, r.wn, upN Λ i (a :: L'), fun j d e => ?_, fun j d e => ?_⟩
  · rw [gt_set] at e
    by_cases hij : i = j
    · subst hij
      rw [if_pos rfl, if_pos ilt] at e
      cases e
      rw [upN_same]
      exact ⟨_, ha, .lst upd_same nh hn⟩
    · rw [if_neg hij] at e
      rw [upN_ne (Ne.symm hij)]
      obtain ⟨w, e1, e2⟩ := h j d e
      exact ⟨w, e1, e2.ext (HE.writeN hH) fun b hb z => (hwi a List.mem_cons_self).2 j d (Ne.symm hij) e (z ▸ hb)⟩
  · rcases set_ow e with ⟨rfl, es⟩ | ⟨hj, e⟩
    · rw [upN_same]
      refine ⟨List.nodup_cons.mpr ⟨hn', nd⟩, fun b hb => ⟨inW b hb, fun k e' hk hg => ?_⟩⟩
      rw [upN_ne hk]
      rw [gt_set, if_neg (Ne.symm hk)] at hg
      exact apart b hb k e' hk hg
    · rw [upN_ne hj]
      obtain ⟨n, w⟩ := h2 j d e
      refine ⟨n, fun b hb => ⟨(w b hb).1, fun k e' hk hg => ?_⟩⟩
      by_cases hki : k = i
      · rw [hki, upN_same]
        exact fun z => apart b z j d hj (gt_ow e) hb
      · rw [upN_ne hki]
        rw [gt_set, if_neg (Ne.symm hki)] at hg
        exact (w b hb).2 k e' hk hg
end

/-- x.append(y), y's own list goes into x -/
def sAppM (i j : Nat) : FS := fun δ => match δ[i]?, δ[j]? with
  | some (.ow (.lst ds)), some (.ow (.lst es)) => if ds.length < 1000000 then M.ret (.nx ((δ.set j .no).set i (.ow (.lst (ds ++ [.lst es]))))) else M.no
  | _, _ => M.no
/-- x.append(e), e a new list -/
def sAppF (i : Nat) (f : FE) : FS := fun δ => match δ[i]? with
  | some (.ow (.lst ds)) => (f δ).bd fun d => if ds.length < 1000000 then M.ret (.nx (δ.set i (.ow (.lst (ds ++ [d]))))) else M.no
  | _ => M.no
section
variable {X : Cx} {pos : Pos}
theorem ds_appM {i j : Nat} {x y : Str} {apos cpos p py : Pos} (hi : X.N[i]? = some x) (hv : Vis X.env.scope x) (hj : X.N[j]? = some y) (hvy : Vis X.env.scope y) (hij : i ≠ j)
    (hs : swapsWith (.Call (.Attribute (.Name x p) "append" apos) [.Name y py] [] cpos) none pos.line X.env = pure false := by rfl)
    (hbase : attributeBase (.Name x p) "append" X.env (eval (.Name x p) X.env) = eval (.Name x p) X.env := by rfl)
    (hfew : ((backTo cpos (starEach [.Name y py] X.env)).all (fun x => !x.1) && (backToKw cpos (keywordEach [] X.env)).all (fun x => x.1.isSome) && decide (([.Name y py] : List Expr).length + ([] : List Keyword).length + (if ([] : List Keyword).isEmpty then 0 else 1) < 30)) = true := by rfl)
    (hline : (apos.endLine == cpos.line) = true := by rfl) (hst : starEach [.Name y py] X.env = (false, eval (.Name y py) X.env) :: starEach [] X.env := by rfl) (hplain : (backTo cpos (starEach [] X.env)).any (·.1) = false := by rfl)
    (hd : (x == ("__debug__" : Str)) = false := by decide) (hcd : (x == ("__classdict__" : Str)) = false := by decide) (hdy : (y == ("__debug__" : Str)) = false := by decide) (hcdy : (y == ("__classdict__" : Str)) = false := by decide) :
    DS X (.Expr (.Call (.Attribute (.Name x p) "append" apos) [.Name y py] [] cpos) pos) (sAppM i j) :=
  (ps_expr (pe_bm PySem.F.plainAttrs_list PySem.F.slot_list_append PySem.F.type_list_append mt_append (pe_var hi hv hd hcd) (pa_cons (pe_var hj hvy hdy hcdy) pa_nil hst) hbase hfew hline hst hplain) hs).imp fun σ H Q ⟨S, W, H0, δ, st, o, st', rs, so, e, q⟩ => by
  unfold sAppM at e
  cases ei : δ[i]? with
  | none => rw [ei] at e; cases e
  | some s1 =>
    cases ej : δ[j]? with
    | none => rw [ei, ej] at e; cases s1 <;> first | cases e | (rename_i d; cases d <;> cases e)
    | some s2 =>
      rw [ei, ej] at e
      cases s1 with
      | ow d1 =>
        cases d1 with
        | lst ds =>
          cases s2 with
          | ow d2 =>
            cases d2 with
            | lst es =>
              have e : (if ds.length < 1000000 then M.ret (.nx ((δ.set j .no).set i (.ow (.lst (ds ++ [.lst es]))))) else M.no) st = some (o, st') := e
              by_cases hl : ds.length < 1000000
              · rw [if_pos hl] at e
                obtain ⟨e1, e2⟩ := ret_inv e
                subst e1 e2
                obtain ⟨a, vs, L, hσ, hH, nh, rr, nd⟩ := rs.own ei
                obtain ⟨b, ws, M', hσ2, hH2, nh2, rr2, nd2⟩ := rs.own ej
                refine ⟨.ref a, hσ, .inl ⟨rfl, _, SqL.of hH⟩, .ref b, hσ2, a, vs, .ref b, rfl, rfl, hH, Nat.lt_of_lt_of_le (by rw [rr.len]; exact hl) (size_ok (Nat.le_refl _)), ?_⟩
                obtain ⟨Λ, h, h2⟩ := id rs.sl
                obtain ⟨v1, e1, rp1⟩ := h i _ (gt_ow ei)
                rw [hσ] at e1
                cases e1
                obtain ⟨v2, e2, rp2⟩ := h j _ (gt_ow ej)
                rw [hσ2] at e2
                cases e2
                have u1 := rp1.uniq (.lst hH nh rr)
                have u2 := rp2.uniq (.lst hH2 nh2 rr2)
                have ap : ∀ c ∈ b :: M', c ∉ a :: L := fun c hc => by
                  have := ((h2 j _ ej).2 c (u2 ▸ hc)).2 i _ hij (gt_ow ei)
                  rwa [u1] at this
                have nda := List.nodup_cons.mp nd
                have rd := rs.drop j
                have ei' : (δ.set j .no)[i]? = some (.ow (.lst ds)) := by rw [List.getElem?_set_ne (Ne.symm hij)]; exact ei
                refine q σ _ (rd.wrM (L' := L ++ (b :: M')) ei' hσ hH rr ?_ ?_ ?_ ?_ ?_) (so.wr nh)
                · exact (rr.append (Rps.one (.lst hH2 nh2 rr2))).ext (HE.writeN hH) fun c hc z => by
                    rcases List.mem_append.mp hc with hc | hc
                    · exact nda.1 (z ▸ hc)
                    · exact ap c hc (z ▸ List.mem_cons_self)
                · exact List.nodup_append.mpr ⟨nda.2, nd2, fun c hc c' hc' z => ap c' hc' (z ▸ List.mem_cons_of_mem _ hc)⟩
                · intro hc
                  rcases List.mem_append.mp hc with hc | hc
                  · exact nda.1 hc
                  · exact ap a hc List.mem_cons_self
                · intro c hc
                  rcases List.mem_append.mp hc with hc | hc
                  · exact ((h2 i _ ei).2 c (u1 ▸ List.mem_cons_of_mem _ hc)).1
                  · exact ((h2 j _ ej).2 c (u2 ▸ hc)).1
                · intro c hc
                  rcases List.mem_append.mp hc with hc | hc
                  · exact .inl hc
                  · refine .inr fun k e' u L2 hk hg hu hr => ?_
                    rw [gt_set] at hg
                    by_cases hjk : j = k
                    · subst hjk
                      rw [if_pos rfl] at hg
                      split at hg <;> cases hg
                    · rw [if_neg hjk] at hg
                      obtain ⟨u', p1, p2⟩ := h k e' hg
                      rw [hu] at p1
                      cases p1
                      have := p2.uniq hr
                      subst this
                      exact ((h2 j _ ej).2 c (u2 ▸ hc)).2 k e' (Ne.symm hjk) hg
              · rw [if_neg hl] at e; cases e
            | _ => cases e
          | _ => cases e
        | _ => cases e
      | _ => cases e
theorem ds_appF {i : Nat} {x : Str} {e : Expr} {f : FE} {apos cpos p : Pos} (hi : X.N[i]? = some x) (hv : Vis X.env.scope x) (he : DF X e f)
    (hs : swapsWith (.Call (.Attribute (.Name x p) "append" apos) [e] [] cpos) none pos.line X.env = pure false := by rfl)
    (hbase : attributeBase (.Name x p) "append" X.env (eval (.Name x p) X.env) = eval (.Name x p) X.env := by rfl)
    (hfew : ((backTo cpos (starEach [e] X.env)).all (fun x => !x.1) && (backToKw cpos (keywordEach [] X.env)).all (fun x => x.1.isSome) && decide (([e] : List Expr).length + ([] : List Keyword).length + (if ([] : List Keyword).isEmpty then 0 else 1) < 30)) = true := by rfl)
    (hline : (apos.endLine == cpos.line) = true := by rfl) (hst : starEach [e] X.env = (false, eval e X.env) :: starEach [] X.env := by rfl) (hplain : (backTo cpos (starEach [] X.env)).any (·.1) = false := by rfl)
    (hd : (x == ("__debug__" : Str)) = false := by decide) (hcd : (x == ("__classdict__" : Str)) = false := by decide) :
    DS X (.Expr (.Call (.Attribute (.Name x p) "append" apos) [e] [] cpos) pos) (sAppF i f) :=
  (ps_expr (pe_bm PySem.F.plainAttrs_list PySem.F.slot_list_append PySem.F.type_list_append mt_append (pe_var hi hv hd hcd) (pa_cons he pa_nil hst) hbase hfew hline hst hplain) hs).imp fun σ H Q ⟨S, W, H0, δ, st, o, st', rs, so, e, q⟩ => by
  unfold sAppF at e
  cases ei : δ[i]? with
  | none => rw [ei] at e; cases e
  | some sl =>
    rw [ei] at e
    cases sl with
    | ow d =>
      cases d with
      | lst ds =>
        obtain ⟨d, s1, ea, e⟩ := bd_inv (show ((f δ).bd fun d => if ds.length < 1000000 then M.ret (.nx (δ.set i (.ow (.lst (ds ++ [d]))))) else M.no) st = some (o, st') from e)
        by_cases hl : ds.length < 1000000
        · rw [if_pos hl] at e
          obtain ⟨e1, e2⟩ := ret_inv e
          subst e1 e2
          obtain ⟨a, vs, L, hσ, hH, nh, rr, nd⟩ := rs.own ei
          refine ⟨.ref a, hσ, .inl ⟨rfl, _, SqL.of hH⟩, S, δ, st, d, _, rs.rs, so, ea, fun v H1 L1 x1 so1 r1 n1 f1 => ?_⟩
          have hH1 : H1 a = some (.lst vs) := x1.lst _ _ (fun z => nh (z ▸ S.hA)) hH
          refine ⟨a, vs, v, rfl, rfl, hH1, Nat.lt_of_lt_of_le (by rw [rr.len]; exact hl) (size_ok (Nat.le_refl _)), ?_⟩
          have rr1 := rr.extS x1
          have nda := List.nodup_cons.mp nd
          obtain ⟨Λ, h, h2⟩ := id rs.sl
          obtain ⟨v1, e1, rp1⟩ := h i _ (gt_ow ei)
          rw [hσ] at e1
          cases e1
          have u1 := rp1.uniq (.lst hH nh rr)
          have ap : ∀ c ∈ L1, c ∉ a :: L := fun c hc hc' => by
            obtain ⟨_, xs, w⟩ := (Rp.lst hH nh rr).ne c hc'
            rw [f1 c hc] at w
            cases w
          refine q σ _ ((rs.ext x1).wrM (L' := L ++ L1) ei hσ hH1 rr1 ?_ ?_ ?_ ?_ ?_) (so1.wr nh)
          · exact (rr1.append (Rps.one r1)).ext (HE.writeN hH1) fun c hc z => by
              rcases List.mem_append.mp hc with hc | hc
              · exact nda.1 (z ▸ hc)
              · exact ap c hc (z ▸ List.mem_cons_self)
          · exact List.nodup_append.mpr ⟨nda.2, n1, fun c hc c' hc' z => ap c' hc' (z ▸ List.mem_cons_of_mem _ hc)⟩
          · intro hc
            rcases List.mem_append.mp hc with hc | hc
            · exact nda.1 hc
            · exact ap a hc List.mem_cons_self
          · intro c hc
            rcases List.mem_append.mp hc with hc | hc
            · exact ((h2 i _ ei).2 c (u1 ▸ List.mem_cons_of_mem _ hc)).1
            · exact rs.wn c (rs.he.new c (f1 c hc))
          · intro c hc
            rcases List.mem_append.mp hc with hc | hc
            · exact .inl hc
            · refine .inr fun k e' u L2 hk hg hu hr hcL => ?_
              obtain ⟨u', p1, p2⟩ := h k e' hg
              rw [hu] at p1
              cases p1
              have := (p2.extS x1).uniq hr
              subst this
              obtain ⟨_, xs, w⟩ := p2.ne c hcL
              rw [f1 c hc] at w
              cases w
        · rw [if_neg hl] at e; cases e
      | _ => cases e
    | _ => cases e

/-! ### list(range(n)), tuple(range(n)) -/
theorem rgV_rngD {S : Sr} {H : Hp} : ∀ (n : Nat) (lo : Int), Rps S H ((List.range n).map fun i => V.int (lo + (i : Nat))) (rngD lo n) []
  | 0, _ => .nil
  | n + 1, lo => by
    rw [List.range_succ_eq_map, List.map_cons, List.map_map]
    refine Rps.cons (L := []) (L' := []) (by simpa using Rp.int (S := S) (H := H) lo) ?_
    have := rgV_rngD (S := S) (H := H) n (lo + 1)
    have e : ((fun i => V.int (lo + (i : Nat))) ∘ Nat.succ) = fun i : Nat => V.int (lo + 1 + (i : Nat)) := by
      funext i
      show V.int (lo + ((i + 1 : Nat) : Int)) = _
      congr 1
      omega
    rw [e]
    exact this
def eLstR1 (f : FE) : FE := e1 (fun d => match d with | .int j => if 0 ≤ j ∧ j.natAbs ≤ 1000000 then some (.lst (rngD 0 j.toNat)) else none | _ => none) f
def eTupR1 (f : FE) : FE := e1 (fun d => match d with | .int j => if 0 ≤ j ∧ j.natAbs ≤ 1000000 then some (.tup (rngD 0 j.toNat)) else none | _ => none) f
theorem df_lstR1 {a : Expr} {f : FE} {p p2 pos2 : Pos} (hc : X.calm = true) (hg : Gl X "list") (hm : X.mg "list" = none) (hg2 : Gl X "range") (hm2 : X.mg "range" = none) (ha : DE X a f)
    (na : starEach [a] X.env = (false, eval a X.env) :: starEach [] X.env := by rfl) (na2 : starEach [.Call (.Name "range" p2) [a] [] pos2] X.env = (false, eval (.Call (.Name "range" p2) [a] [] pos2) X.env) :: starEach [] X.env := by rfl) :
    DF X (.Call (.Name "list" p) [.Call (.Name "range" p2) [a] [] pos2] [] pos) (eLstR1 f) := (pe_listRg hc hg hm (prg_1 hg2 hm2 ha na) na2).imp fun σ H Q ⟨S, δ, st, d, st', rs, so, e, q⟩ => by
  obtain ⟨x, s1, ea, e3⟩ := bd_inv e
  obtain ⟨eo, es⟩ := of_inv e3
  clear e3
  subst es
  refine ⟨S, δ, st, x, _, rs, so, ea, fun v H1 L x1 so1 r => ?_⟩
  cases x with
  | int j =>
    have eo : (if 0 ≤ j ∧ j.natAbs ≤ 1000000 then some (D.lst (rngD 0 j.toNat)) else none) = some d := eo
    by_cases h : 0 ≤ j ∧ j.natAbs ≤ 1000000
    · rw [if_pos h] at eo
      cases eo
      obtain ⟨rfl, rfl⟩ := r.iint
      refine ⟨j, rfl, RgOk.of_le (by omega) (by omega) (by omega) (by omega), fun p np => ?_⟩
      have e2 : rgV 0 j = (List.range j.toNat).map fun i => V.int ((0 : Int) + (i : Nat)) := by unfold rgV; rw [Int.sub_zero]
      rw [e2]
      exact q _ _ [p] (x1.trans (HE.fresh np)) (so1.ext0 (HE.fresh np)) (.lst upd_same (fun z => so1.tr _ z np) (rgV_rngD _ _)) (by simp) fun b hb => by
        have : b = p := by simpa using hb
        exact this ▸ x1.new _ np
    · rw [if_neg h] at eo; cases eo
  | _ => cases eo
theorem d_tupR1 {a : Expr} {f : FE} {p p2 pos2 : Pos} (hc : X.calm = true) (hg : Gl X "tuple") (hm : X.mg "tuple" = none) (hg2 : Gl X "range") (hm2 : X.mg "range" = none) (ha : DE X a f)
    (na : starEach [a] X.env = (false, eval a X.env) :: starEach [] X.env := by rfl) (na2 : starEach [.Call (.Name "range" p2) [a] [] pos2] X.env = (false, eval (.Call (.Name "range" p2) [a] [] pos2) X.env) :: starEach [] X.env := by rfl) :
    DE X (.Call (.Name "tuple" p) [.Call (.Name "range" p2) [a] [] pos2] [] pos) (eTupR1 f) := (pe_tupRg hc hg hm (prg_1 hg2 hm2 ha na) na2).imp fun σ H Q ⟨S, δ, st, d, st', rs, so, e, q⟩ => by
  obtain ⟨x, s1, ea, e3⟩ := bd_inv e
  obtain ⟨eo, es⟩ := of_inv e3
  clear e3
  subst es
  refine ⟨S, δ, st, x, _, rs, so, ea, fun v H1 L x1 so1 r => ?_⟩
  cases x with
  | int j =>
    have eo : (if 0 ≤ j ∧ j.natAbs ≤ 1000000 then some (D.tup (rngD 0 j.toNat)) else none) = some d := eo
    by_cases h : 0 ≤ j ∧ j.natAbs ≤ 1000000
    · rw [if_pos h] at eo
      cases eo
      obtain ⟨rfl, rfl⟩ := r.iint
      refine ⟨j, rfl, RgOk.of_le (by omega) (by omega) (by omega) (by omega), fun p np => ?_⟩
      have e2 : rgV 0 j = (List.range j.toNat).map fun i => V.int ((0 : Int) + (i : Nat)) := by unfold rgV; rw [Int.sub_zero]
      rw [e2]
      exact q _ _ [] (x1.trans (HE.fresh np)) (so1.ext0 (HE.fresh np)) (.tup upd_same (rgV_rngD _ _))
    · rw [if_neg h] at eo; cases eo
  | _ => cases eo
theorem d_lstR1 {a : Expr} {f : FE} {p p2 pos2 : Pos} (hc : X.calm = true) (hg : Gl X "list") (hm : X.mg "list" = none) (hg2 : Gl X "range") (hm2 : X.mg "range" = none) (ha : DE X a f)
    (na : starEach [a] X.env = (false, eval a X.env) :: starEach [] X.env := by rfl) (na2 : starEach [.Call (.Name "range" p2) [a] [] pos2] X.env = (false, eval (.Call (.Name "range" p2) [a] [] pos2) X.env) :: starEach [] X.env := by rfl) :
    DE X (.Call (.Name "list" p) [.Call (.Name "range" p2) [a] [] pos2] [] pos) (eLstR1 f) := df_de (df_lstR1 hc hg hm hg2 hm2 ha na na2)
end
end DL
set_option Elab.async false
set_option linter.all false
set_option maxRecDepth 100000
set_option maxHeartbeats 4000000
/-! DTake: the laws' source of draws: what _law_take and _law_begin do, for any text that has them. -/
namespace DL
open PySem PySem.Spec PyProof.Rows L2

/-- a draw below m -/
def take (s : Src) (m : Int) : Int × Src :=
  if s.big = 0 ∧ s.pos < s.script.length then
    let c : Int := ((s.script.getD s.pos 0).natAbs : Nat)
    if c < 10 ^ 18 then (c % m, { s with pos := s.pos + 1, big := 0 })
    else if 0 < c then (c % m, { s with pos := s.pos + 1, big := c / m })
    else (0, s)
  else if 0 < s.big then (s.big % m, { s with big := s.big / m })
  else ((s.seed * 69621 + 7) % 2147483647 / 5 % m, { s with seed := (s.seed * 69621 + 7) % 2147483647 })
def F__law_take : List D → M D := fun ds s => match ds with
  | [.src, .int m] => if 0 < m ∧ m ≤ 1000000 then some (.int (take s m).1, (take s m).2) else none
  | _ => none
theorem draw_eq {s : Src} {m : Int} (h : 0 < m ∧ m ≤ 1000000) : F__law_take [.src, .int m] s = some (.int (take s m).1, (take s m).2) := by
  show (if 0 < m ∧ m ≤ 1000000 then _ else _) = _
  rw [if_pos h]
theorem take_lo (s : Src) {m : Int} (h : 0 < m) : 0 ≤ (take s m).1 := by
  unfold take
  dsimp only
  split
  · split
    · exact Int.emod_nonneg _ (by omega)
    · split
      · exact Int.emod_nonneg _ (by omega)
      · exact Int.le_refl _
  · split
    · exact Int.emod_nonneg _ (by omega)
    · exact Int.emod_nonneg _ (by omega)
theorem take_hi (s : Src) {m : Int} (h : 0 < m) : (take s m).1 < m := by
  unfold take
  dsimp only
  split
  · split
    · exact Int.emod_lt_of_pos _ h
    · split
      · exact Int.emod_lt_of_pos _ h
      · exact h
  · split
    · exact Int.emod_lt_of_pos _ h
    · exact Int.emod_lt_of_pos _ h
/-- the list of the source -/
def lst4 (q : Addr) (s : Src) : HO := .lst [.ref q, .int s.pos, .int s.big, .int s.seed]

section
variable {X : Cx}
theorem src_sub {p : Addr} {xs : List V} {H : Hp} {k : Nat} {v : V} (h : xs[k]? = some v) : atI xs (k : Int) = some v := atI_nat h
/-- what stays of the rest when the source's list is written -/
theorem ext_src {S : Sr} {H : Hp} {xs ys : List V} (h : H S.dA = some (.lst xs)) : Ext S H (upd H S.dA (.lst ys)) := HE.write h rfl
theorem srcOk_upd {S : Sr} {H : Hp} {s s' : Src} (h : SrcOk S H s) (hs : s'.script = s.script) : SrcOk S (upd H S.dA (.lst [.ref S.q, .int s'.pos, .int s'.big, .int s'.seed])) s' :=
  ⟨h.ne, upd_same, by rw [upd_ne h.ne, hs]; exact h.cp, fun b hb => by
    by_cases e : b = S.dA
    · rw [e, upd_same]; exact fun z => nomatch z
    · rw [upd_ne e]; exact h.tr b hb⟩
end
section
variable (K : PySem.W.Frag)
abbrev tI4 (i : Int) : TE := tOp (rIxL K) (tVar 0) (tC (.int i))
abbrev cInt : List V → Hp → VK → Prop := fun xs H Q => (∃ i, xs = [.int i] ∧ Q (.int i) H) ∨ ∃ k, xs = [.bl k] ∧ Q (.int (if k then 1 else 0)) H
abbrev cLen : List V → Hp → VK → Prop := fun xs H Q => ∃ p ys, xs = [.ref p] ∧ (SqL K H p ys ∨ SqT K H p ys) ∧ Q (.int ys.length) H
abbrev cAbs : List V → Hp → VK → Prop := fun xs H Q => ∃ i, xs = [.int i] ∧ Q (.int (if i < 0 then -i else i)) H
/-- the reading of the draw's body -/
def tTake : TS :=
  tSeq (tIfS (tAnd (tTest (tOp rEq (tI4 K 2) (tC (.int 0)))) (tTest (tOp (rI0 fun i j => .bl (decide (i < j))) (tI4 K 1) (tCB (cLen K) (tCons (tI4 K 0) tNil)))))
      (tSeq (tAsg (tCB cAbs (tCons (tCB cInt (tCons (tOp (rIxL K) (tI4 K 0) (tI4 K 1)) tNil)) tNil)) (gSub (tVar 0) (tC (.int 2)) rSetL))
      (tSeq (tAsg (tOp (rI0 fun i j => .int (i + j)) (tI4 K 1) (tC (.int 1))) (gSub (tVar 0) (tC (.int 1)) rSetL))
        (tIfS (tTest (tOp (rI0 fun i j => .bl (decide (i < j))) (tI4 K 2) (tOp (rI CPow fun i j => .int (i ^ j.toNat)) (tC (.int 10)) (tC (.int 18)))))
          (tSeq (tAsg (tCB cInt (tCons (tI4 K 2) tNil)) (gName 2))
          (tSeq (tAsg (tC (.int 0)) (gSub (tVar 0) (tC (.int 2)) rSetL))
            (tRet (tOp (rI (fun _ j => 0 < j) fun i j => .int (i % j)) (tVar 2) (tVar 1)))))
          tNext))) tNext)
  (tSeq (tIfS (tTest (tOp (rI0 fun i j => .bl (decide (j < i))) (tI4 K 2) (tC (.int 0))))
      (tSeq (tAsg (tOp (rI (fun _ j => 0 < j) fun i j => .int (i % j)) (tCB cInt (tCons (tI4 K 2) tNil)) (tVar 1)) (gName 3))
      (tSeq (tAsg (tOp (rI CDivW fun i j => .int (i / j)) (tCB cInt (tCons (tI4 K 2) tNil)) (tVar 1)) (gSub (tVar 0) (tC (.int 2)) rSetL))
        (tRet (tVar 3)))) tNext)
  (tSeq (tAsg (tOp (rI (fun _ j => 0 < j) fun i j => .int (i % j)) (tCB cInt (tCons (tOp (rI0 fun i j => .int (i + j)) (tOp (rI CMul fun i j => .int (i * j)) (tI4 K 3) (tC (.int 69621))) (tC (.int 7))) tNil)) (tC (.int 2147483647))) (gSub (tVar 0) (tC (.int 3)) rSetL))
    (tRet (tOp (rI (fun _ j => 0 < j) fun i j => .int (i % j)) (tCB cInt (tCons (tOp (rI CDiv fun i j => .int (i / j)) (tI4 K 3) (tC (.int 5))) tNil)) (tVar 1)))))
end
section
variable {K : PySem.W.Frag} {S : Sr} {H : Hp} {σ : L2.St} {s : Src}
/-- d[i] reads -/
theorem i4 {xs : List V} {i : Nat} {v : V} {Q : VK} (h0 : σ[0]? = some (some (.ref S.dA))) (h : H S.dA = some (.lst xs)) (hv : xs[i]? = some v) (q : Q v H) : tI4 K (i : Int) σ H Q :=
  ⟨_, h0, S.dA, xs, i, v, rfl, rfl, SqL.of h, atI_nat hv, q⟩
theorem log_small {m : Int} (h1 : 0 < m) (h2 : m ≤ 1000000) : m.natAbs.log2 < 9000 := by
  have : m.natAbs < 2 ^ 20 := by omega
  exact Nat.lt_of_lt_of_le ((Nat.log2_lt (by omega)).mpr this) (by decide)
theorem abs_int (c : Int) : (if c < 0 then -c else c) = ((c.natAbs : Nat) : Int) := by
  by_cases h : c < 0
  · rw [if_pos h]; omega
  · rw [if_neg h]; omega
/-- the part behind the first if, from any state of the source -/
theorem take_tail {m : Int} {Q : VK} {D' : Ends} (hm : 0 < m ∧ m ≤ 1000000) (hrt : D'.rt = Q) (h0 : σ[0]? = some (some (.ref S.dA))) (h1 : σ[1]? = some (some (.int m))) (hl : σ.length = 4) (so : SrcOk S H s)
    (q : ∀ (r : Int) (s' : Src) (H' : Hp), (r, s') = (if 0 < s.big then (s.big % m, { s with big := s.big / m }) else ((s.seed * 69621 + 7) % 2147483647 / 5 % m, { s with seed := (s.seed * 69621 + 7) % 2147483647 })) → Ext S H H' → SrcOk S H' s' → Q (.int r) H') :
    tSeq (tIfS (tTest (tOp (rI0 fun i j => .bl (decide (j < i))) (tI4 K 2) (tC (.int 0))))
      (tSeq (tAsg (tOp (rI (fun _ j => 0 < j) fun i j => .int (i % j)) (tCB cInt (tCons (tI4 K 2) tNil)) (tVar 1)) (gName 3))
      (tSeq (tAsg (tOp (rI CDivW fun i j => .int (i / j)) (tCB cInt (tCons (tI4 K 2) tNil)) (tVar 1)) (gSub (tVar 0) (tC (.int 2)) rSetL))
        (tRet (tVar 3)))) tNext)
  (tSeq (tAsg (tOp (rI (fun _ j => 0 < j) fun i j => .int (i % j)) (tCB cInt (tCons (tOp (rI0 fun i j => .int (i + j)) (tOp (rI CMul fun i j => .int (i * j)) (tI4 K 3) (tC (.int 69621))) (tC (.int 7))) tNil)) (tC (.int 2147483647))) (gSub (tVar 0) (tC (.int 3)) rSetL))
    (tRet (tOp (rI (fun _ j => 0 < j) fun i j => .int (i % j)) (tCB cInt (tCons (tOp (rI CDiv fun i j => .int (i / j)) (tI4 K 3) (tC (.int 5))) tNil)) (tVar 1)))) D' σ H := by
  have hA := so.at_
  refine i4 (i := 2) h0 hA rfl ⟨s.big, 0, rfl, rfl, _, rfl, ite2 (fun hb => ?_) (fun hb => ?_)⟩
  · have hb' : 0 < s.big := of_decide_eq_true hb
    have e3 : (σ.set 3 (some (.int (s.big % m))))[0]? = some (some (.ref S.dA)) := by rw [List.getElem?_set_ne (by decide)]; exact h0
    have e1 : (σ.set 3 (some (.int (s.big % m))))[1]? = some (some (.int m)) := by rw [List.getElem?_set_ne (by decide)]; exact h1
    have e33 : (σ.set 3 (some (V.int (s.big % m))))[3]? = some (some (.int (s.big % m))) := List.getElem?_set_self (by omega)
    refine i4 (i := 2) h0 hA rfl (.inl ⟨s.big, rfl, .int m, h1, s.big, m, rfl, rfl, hm.1, ?_⟩)
    refine i4 (i := 2) e3 hA rfl (.inl ⟨s.big, rfl, .int m, e1, s.big, m, rfl, rfl, ⟨hm.1, log_small hm.1 hm.2⟩, ?_⟩)
    refine ⟨_, e3, S.dA, _, 2, 2, rfl, rfl, hA, rfl, _, e33, ?_⟩
    rw [hrt]
    exact q (s.big % m) { s with big := s.big / m } _ (by rw [if_pos hb']) (ext_src hA) (srcOk_upd (s' := { s with big := s.big / m }) so rfl)
  · have hb' : ¬ 0 < s.big := fun z => hb (decide_eq_true z)
    refine i4 (i := 3) h0 hA rfl ⟨s.seed, 69621, rfl, rfl, .inr ⟨by decide, by decide⟩, s.seed * 69621, 7, rfl, rfl, .inl ⟨s.seed * 69621 + 7, rfl, s.seed * 69621 + 7, 2147483647, rfl, rfl, (by show (0 : Int) < 2147483647; decide), ?_⟩⟩
    refine ⟨_, h0, S.dA, _, 3, 3, rfl, rfl, hA, rfl, ?_⟩
    have so' : SrcOk S (upd H S.dA (.lst [.ref S.q, .int s.pos, .int s.big, .int ((s.seed * 69621 + 7) % 2147483647)])) { s with seed := (s.seed * 69621 + 7) % 2147483647 } := srcOk_upd (s' := { s with seed := (s.seed * 69621 + 7) % 2147483647 }) so rfl
    refine i4 (i := 3) h0 so'.at_ rfl ⟨(s.seed * 69621 + 7) % 2147483647, 5, rfl, rfl, ⟨by decide, by decide⟩, .inl ⟨_, rfl, .int m, h1, _, m, rfl, rfl, hm.1, ?_⟩⟩
    rw [hrt]
    exact q _ { s with seed := (s.seed * 69621 + 7) % 2147483647 } _ (by rw [if_neg hb']) (ext_src hA) so'
theorem take_reads {m : Int} {Q : VK} (so : SrcOk S H s) (hm : 0 < m ∧ m ≤ 1000000) (q : ∀ v H' L', Ext S H H' → SrcOk S H' (take s m).2 → Rp S H' v (.int (take s m).1) L' → Q v H') :
    tTake K { nx := fun _ H' => Q .non H', rt := Q } [some (.ref S.dA), some (.int m), none, none] H := by
  have hA := so.at_
  have q' : ∀ (r : Int) (s' : Src) (H' : Hp), (r, s') = take s m → Ext S H H' → SrcOk S H' s' → Q (.int r) H' := fun r s' H' e x so' => by
    have e1 : r = (take s m).1 := congrArg Prod.fst e
    have e2 : s' = (take s m).2 := congrArg Prod.snd e
    subst e1 e2
    exact q _ H' [] x so' (.int _)
  refine i4 (i := 2) rfl hA rfl ⟨rfl, _, rfl, ite2 (fun hb => ?_) (fun hb => ?_)⟩
  · have hb0 : s.big = 0 := V.int.inj (of_decide_eq_true hb)
    refine i4 (i := 1) rfl hA rfl (i4 (i := 0) rfl hA rfl ⟨S.q, _, rfl, .inl (SqL.of so.cp), s.pos, s.script.length, rfl, ?_, _, rfl, ite2 (fun hp => ?_) (fun hp => ?_)⟩)
    · rw [List.length_map]
    · have hp' : s.pos < s.script.length := by
        have := of_decide_eq_true hp
        omega
      have hc : s.script[s.pos]? = some (s.script.getD s.pos 0) := by
        rw [List.getD_eq_getElem?_getD, List.getElem?_eq_getElem hp']; rfl
      generalize hcc : s.script.getD s.pos 0 = c at hc
      have hcv : (s.script.map V.int)[s.pos]? = some (.int c) := by rw [List.getElem?_map, hc]; rfl
      refine i4 (i := 0) rfl hA rfl (i4 (i := 1) rfl hA rfl ⟨S.q, _, s.pos, .int c, rfl, rfl, SqL.of so.cp, atI_nat hcv, .inl ⟨c, rfl, c, rfl, ?_⟩⟩)
      refine ⟨_, rfl, S.dA, _, 2, 2, rfl, rfl, hA, rfl, ?_⟩
      rw [abs_int]
      have so1 : SrcOk S (upd H S.dA (.lst [.ref S.q, .int s.pos, .int ((c.natAbs : Nat) : Int), .int s.seed])) { s with big := ((c.natAbs : Nat) : Int) } := srcOk_upd (s' := { s with big := ((c.natAbs : Nat) : Int) }) so rfl
      refine i4 (i := 1) rfl so1.at_ rfl ⟨s.pos, 1, rfl, rfl, ?_⟩
      have ep : ((s.pos : Int) + 1) = ((s.pos + 1 : Nat) : Int) := by omega
      show gSub (tVar 0) (tC (V.int 1)) rSetL (.int ((s.pos : Int) + 1)) _ _ _
      rw [ep]
      refine ⟨_, rfl, S.dA, _, 1, 1, rfl, rfl, so1.at_, rfl, ?_⟩
      have so2 : SrcOk S (upd H S.dA (.lst [.ref S.q, .int ((s.pos + 1 : Nat) : Int), .int ((c.natAbs : Nat) : Int), .int s.seed])) { s with pos := s.pos + 1, big := ((c.natAbs : Nat) : Int) } := srcOk_upd (s' := { s with pos := s.pos + 1, big := ((c.natAbs : Nat) : Int) }) so rfl
      have x2 : Ext S H (upd H S.dA (.lst [.ref S.q, .int ((s.pos + 1 : Nat) : Int), .int ((c.natAbs : Nat) : Int), .int s.seed])) := ext_src hA
      rw [upd_upd]
      have e18 : (10 : Int) ^ (18 : Int).toNat = 10 ^ 18 := by simp
      refine i4 (i := 2) rfl so2.at_ rfl ?_
      refine ⟨10, 18, rfl, rfl, ⟨by decide, by decide, by decide⟩, ?_⟩
      refine ⟨((c.natAbs : Nat) : Int), (10 : Int) ^ (18 : Int).toNat, rfl, rfl, ?_⟩
      refine ⟨_, rfl, ?_⟩
      rw [e18]
      generalize hZ : (10 : Int) ^ 18 = Z
      refine ite2 (fun hs => ?_) (fun hs => ?_)
      · have hs' : ((c.natAbs : Nat) : Int) < 10 ^ 18 := by rw [hZ]; exact of_decide_eq_true hs
        refine i4 (i := 2) rfl so2.at_ rfl (.inl ⟨_, rfl, ?_⟩)
        refine ⟨_, rfl, S.dA, _, 2, 2, rfl, rfl, so2.at_, rfl, _, rfl, _, rfl, _, m, rfl, rfl, hm.1, ?_⟩
        have so3 : SrcOk S (upd (upd H S.dA (.lst [.ref S.q, .int ((s.pos + 1 : Nat) : Int), .int ((c.natAbs : Nat) : Int), .int s.seed])) S.dA (.lst [.ref S.q, .int ((s.pos + 1 : Nat) : Int), .int 0, .int s.seed])) { s with pos := s.pos + 1, big := 0 } := srcOk_upd (s' := { s with pos := s.pos + 1, big := 0 }) so2 rfl
        refine q' _ { s with pos := s.pos + 1, big := 0 } _ ?_ (x2.trans (ext_src so2.at_)) so3
        unfold take
        rw [if_pos (show s.big = 0 ∧ s.pos < s.script.length from ⟨hb0, hp'⟩)]
        simp only [hcc]
        rw [if_pos hs']
      · have hs' : ¬ ((c.natAbs : Nat) : Int) < 10 ^ 18 := by rw [hZ]; exact fun z => hs (decide_eq_true z)
        have hpos : (0 : Int) < ((c.natAbs : Nat) : Int) := by
          have : (0 : Int) < 10 ^ 18 := by decide
          omega
        refine take_tail (K := K) (s := { s with pos := s.pos + 1, big := ((c.natAbs : Nat) : Int) }) hm rfl rfl rfl rfl so2 fun r s' H' e x so' => q' r s' H' ?_ (x2.trans x) so'
        rw [e, if_pos (show (0 : Int) < { s with pos := s.pos + 1, big := ((c.natAbs : Nat) : Int) : Src }.big from hpos)]
        unfold take
        rw [if_pos (show s.big = 0 ∧ s.pos < s.script.length from ⟨hb0, hp'⟩)]
        simp only [hcc]
        rw [if_neg hs', if_pos hpos]
    · have hp' : ¬ s.pos < s.script.length := fun z => hp (decide_eq_true (by omega))
      refine take_tail (K := K) hm rfl rfl rfl rfl so fun r s' H' e x so' => q' r s' H' ?_ x so'
      rw [e]
      unfold take
      rw [if_neg (show ¬ (s.big = 0 ∧ s.pos < s.script.length) from fun z => hp' z.2)]
  · have hb0 : s.big ≠ 0 := fun z => hb (decide_eq_true (by rw [z]))
    refine iteF (take_tail (K := K) hm rfl rfl rfl rfl so fun r s' H' e x so' => q' r s' H' ?_ x so')
    rw [e]
    unfold take
    rw [if_neg (show ¬ (s.big = 0 ∧ s.pos < s.script.length) from fun z => hb0 z.1)]
end

/-! ### the source's making, the law's own start -/
def spBegin (K : PySem.W.Frag) : Sp := fun vs H Q _ => ∃ (a : Addr) (ns : List Int), vs = [.ref a] ∧ SqL K H a (ns.map V.int) ∧ ns.length ≤ 63 ∧
  ∀ H' p q seed, H p = none → H q = none → p ≠ q → H' p = some (.lst [.ref q, .int 0, .int 0, .int seed]) → H' q = some (.lst (ns.map V.int)) → Q (.ref p) H'
/-- the reading of its body -/
def tBegin (K : PySem.W.Frag) : TS :=
  tSeq (tAsg (tC (.int 5)) (gName 1))
  (tSeq (tFor (iList K (tVar 0)) (gName 2) (tAsg (tOp (rI (fun _ j => 0 < j) fun i j => .int (i % j)) (tOp (rI0 fun i j => .int (i + j)) (tOp (rI0 fun i j => .int (i + j)) (tOp (rI CMul fun i j => .int (i * j)) (tVar 1) (tC (.int 48271))) (tOp (rI (fun _ j => 0 < j) fun i j => .int (i % j)) (tCB cInt (tCons (tVar 2) tNil)) (tC (.int 2147483629)))) (tC (.int 11))) (tC (.int 2147483647))) (gName 1)))
  (tRet (tLst (tCons (tCB (fun xs H Q => ∃ p ys, xs = [.ref p] ∧ (SqL K H p ys ∨ SqT K H p ys) ∧ ∀ l, H l = none → Q (.ref l) (upd H l (.lst ys))) (tCons (tVar 0) tNil)) (tCons (tC (.int 0)) (tCons (tC (.int 0)) (tCons (tVar 1) tNil)))))))
theorem begin_reads {K : PySem.W.Frag} {vs : List V} {H : Hp} {Q : VK} {E : XK} (h : spBegin K vs H Q E) : tBegin K { nx := fun _ H' => Q .non H', rt := Q } (L2.start ["script", "seed", "cell"] vs) H := by
  obtain ⟨a, ns, rfl, hS, hl, q⟩ := h
  refine ⟨.ref a, rfl, a, rfl, ⟨_, hS⟩, ?_⟩
  refine for_list (K := K) (a := a) (xs := ns.map V.int) (fun i σ G => G = H ∧ ∃ z y, σ = [some (.ref a), some (.int z), y]) ⟨rfl, 5, none, rfl⟩ (fun i σ G _ ⟨e, _⟩ => e ▸ hS) (fun i x σ G hx ⟨e, z, y, eσ⟩ => ?_) (fun σ G ⟨e, z, y, eσ⟩ => ?_)
  · subst e eσ
    obtain ⟨c, hc⟩ : ∃ c : Int, x = .int c := by
      rw [List.getElem?_map] at hx
      obtain ⟨c, _, e⟩ := Option.map_eq_some_iff.mp hx
      exact ⟨c, e.symm⟩
    subst hc
    refine ⟨.int z, rfl, z, 48271, rfl, rfl, .inr ⟨by decide, by decide⟩, .int c, rfl, .inl ⟨c, rfl, c, 2147483629, rfl, rfl, (by show (0 : Int) < 2147483629; decide), _, _, rfl, rfl, _, 11, rfl, rfl, _, 2147483647, rfl, rfl, (by show (0 : Int) < 2147483647; decide), rfl, _, _, rfl⟩⟩
  · subst e eσ
    refine ⟨.ref a, rfl, a, ns.map V.int, rfl, .inl hS, fun l hl2 => ⟨.int z, rfl, Nat.le_trans (by show 4 ≤ 1000000; decide) (size_ok (Nat.le_refl _)), fun p np => ?_⟩⟩
    have npl : p ≠ l := fun e => by rw [e, upd_same] at np; cases np
    rw [upd_ne npl] at np
    exact q _ p l z np hl2 npl upd_same (by rw [upd_ne (Ne.symm npl), upd_same])
/-- the law's statements behind the source's making -/
theorem law_reads {n : Nat} {g : FS} {a p q : Addr} {ns : List Int} {seed : Int} {H' : Hp} {D' : Ends} (hpq : p ≠ q) (hp : H' p = some (.lst [.ref q, .int 0, .int 0, .int seed])) (hq : H' q = some (.lst (ns.map V.int)))
    (hg : ∀ st : Src, ∃ st', g (.no :: .rd .src :: List.replicate n .no) st = some (.rt (.bl true), st')) (hrt : ∀ H2, D'.rt (.bl true) H2) : tS g D' (some (.ref a) :: some (.ref p) :: List.replicate n none) H' := by
  obtain ⟨st', e⟩ := hg ⟨ns, 0, 0, seed⟩
  refine ⟨⟨p, q, fun b => b = p ∨ b = q, .inl rfl, .inr rfl⟩, fun b => H' b = none ∨ b = p, H', _, _, _, st', ⟨by simp, HE.refl, .inr rfl, fun b z => .inl z, fun _ => [], fun i d h => ?_, fun i d h => ?_⟩, ⟨Ne.symm hpq, hp, hq, fun b hb z => ?_⟩, e, fun v H2 L _ _ r => ?_⟩
  · match i with
    | 0 => cases h
    | 1 =>
      cases h
      exact ⟨_, rfl, .src (S := ⟨p, q, fun b => b = p ∨ b = q, .inl rfl, .inr rfl⟩)⟩
    | i + 2 =>
      unfold gt at h
      simp only [List.getElem?_cons_succ, List.getElem?_replicate] at h
      split at h <;> cases h
  · match i with
    | 0 => cases h
    | 1 => cases h
    | i + 2 =>
      simp only [List.getElem?_cons_succ, List.getElem?_replicate] at h
      split at h <;> cases h
  · rcases hb with rfl | rfl
    · rw [hp] at z; cases z
    · rw [hq] at z; cases z
  · obtain ⟨rfl, _⟩ := r.ibl
    exact hrt H2
def spLaw (K : PySem.W.Frag) : Sp := fun vs H Q _ => ∃ (a : Addr) (ns : List Int), vs = [.ref a] ∧ SqL K H a (ns.map V.int) ∧ ns.length ≤ 63 ∧ ∀ H', Q (.bl true) H'
end DL
set_option Elab.async false
set_option linter.all false
set_option maxRecDepth 100000
set_option maxHeartbeats 4000000
/-! DSim: the functions over data, reckoned out. -/
namespace DL
open PySem PySem.Spec PyProof.Rows L2

section
variable {α β : Type} {s : Src} {δ : Ev} {f g h : FE} {p q : Ev → M Bool} {i j : Nat} {d : D} {fs : Ev → M (List D)}
@[simp] theorem bd_ap (m : M α) (f : α → M β) : (m.bd f) s = (m s).bind fun p => f p.1 p.2 := by
  show (match m s with | none => none | some (a, s') => f a s') = _
  cases m s <;> rfl
@[simp] theorem ret_ap (a : α) : M.ret a s = some (a, s) := rfl
@[simp] theorem of_some (a : α) : M.of (some a) s = some (a, s) := rfl
@[simp] theorem of_none : M.of (none : Option α) s = none := rfl
@[simp] theorem no_ap : (M.no : M α) s = none := rfl
@[simp] theorem eVar_ap : eVar i δ s = M.of (gt δ i) s := rfl
@[simp] theorem eC_ap : eC d δ s = some (d, s) := rfl
@[simp] theorem e2_ap (o : D → D → Option D) : e2 o f g δ s = (f δ s).bind fun p => (g δ p.2).bind fun q => M.of (o p.1 q.1) q.2 := by simp [e2]
@[simp] theorem e1_ap (o : D → Option D) : e1 o f δ s = (f δ s).bind fun p => M.of (o p.1) p.2 := by simp [e1]
@[simp] theorem eAs0_ap : eAs0 δ s = some ([], s) := rfl
@[simp] theorem eAs_ap : eAs f fs δ s = (f δ s).bind fun p => (fs δ p.2).bind fun q => some (p.1 :: q.1, q.2) := by simp [eAs]
@[simp] theorem eTup_ap : eTup fs δ s = (fs δ s).bind fun p => M.of (if p.1.length ≤ 1000000 then some (.tup p.1) else none) p.2 := by simp [eTup]
@[simp] theorem eLst_ap : eLst fs δ s = (fs δ s).bind fun p => M.of (if p.1.length ≤ 1000000 then some (.lst p.1) else none) p.2 := by simp [eLst]
@[simp] theorem eIf_ap : eIf p f g δ s = (p δ s).bind fun k => if k.1 = true then f δ k.2 else g δ k.2 := by simp only [eIf, bd_ap]; congr; funext k; split <;> rfl
@[simp] theorem bOf_ap : bOf f δ s = (f δ s).bind fun p => M.of (match p.1 with | .bl k => some k | _ => none) p.2 := by
  simp only [bOf, bd_ap] <;> congr
@[simp] theorem bTr_ap : bTr f δ s = (f δ s).bind fun p => M.of (truD p.1) p.2 := by simp [bTr]
@[simp] theorem bAnd_ap : bAnd p q δ s = (p δ s).bind fun k => if k.1 = true then q δ k.2 else some (false, k.2) := by simp only [bAnd, bd_ap]; congr; funext k; split <;> rfl
@[simp] theorem bOr_ap : bOr p q δ s = (p δ s).bind fun k => if k.1 = true then some (true, k.2) else q δ k.2 := by simp only [bOr, bd_ap]; congr; funext k; split <;> rfl
@[simp] theorem bNot_ap : bNot p δ s = (p δ s).bind fun k => some (!k.1, k.2) := by simp [bNot]
@[simp] theorem bYes_ap : bYes δ s = some (true, s) := rfl
@[simp] theorem eAnd_ap : eAnd f g δ s = (f δ s).bind fun p => match p.1 with | .bl true => g δ p.2 | .bl false => some (.bl false, p.2) | _ => none := by
  simp only [eAnd, bd_ap]; congr; funext k; obtain ⟨d, t⟩ := k; cases d <;> first | rfl | (rename_i b; cases b <;> rfl)
@[simp] theorem eOr_ap : eOr f g δ s = (f δ s).bind fun p => match p.1 with | .bl true => some (.bl true, p.2) | .bl false => g δ p.2 | _ => none := by
  simp only [eOr, bd_ap]; congr; funext k; obtain ⟨d, t⟩ := k; cases d <;> first | rfl | (rename_i b; cases b <;> rfl)
@[simp] theorem eNot_ap : eNot f δ s = (f δ s).bind fun p => M.of (match p.1 with | .bl k => some (.bl (!k)) | _ => none) p.2 := by
  simp only [eNot, e1_ap] <;> congr
@[simp] theorem eCall_ap (o : List D → Option D) : eCall o fs δ s = (fs δ s).bind fun p => M.of (o p.1) p.2 := by simp [eCall]
@[simp] theorem eFn_ap (F : List D → M D) : eFn F fs δ s = (fs δ s).bind fun p => F p.1 p.2 := by simp [eFn]
@[simp] theorem eLf_ap : eLf f δ s = (f δ s).bind fun p => M.of (if p.1.lf = true then some p.1 else none) p.2 := by simp [eLf]
@[simp] theorem eRevT_ap : eRevT f δ s = (f δ s).bind fun p => M.of (match p.1 with | .tup xs => some (.tup xs.reverse) | _ => none) p.2 := by
  simp only [eRevT, e1_ap] <;> congr
@[simp] theorem eRevL_ap : eRevL f δ s = (f δ s).bind fun p => M.of (match p.1 with | .lst xs => some (.lst xs.reverse) | _ => none) p.2 := by
  simp only [eRevL, e1_ap] <;> congr
@[simp] theorem eCh_ap (o o' : D → D → Option D) : eCh o o' f g h δ s = (f δ s).bind fun x => (g δ x.2).bind fun y => (M.of (o x.1 y.1) y.2).bind fun z => match z.1 with
  | .bl true => (h δ z.2).bind fun u => M.of (o' y.1 u.1) u.2
  | .bl false => some (.bl false, z.2)
  | _ => none := by
  simp only [eCh, bd_ap]
  congr; funext x; congr; funext y; congr; funext z; obtain ⟨d, t⟩ := z; cases d <;> first | rfl | (rename_i b; cases b <;> first | rfl | (simp only [bd_ap]))
@[simp] theorem iOf_ap (o : List D → Option (List D)) : iOf o fs δ s = (fs δ s).bind fun p => M.of (o p.1) p.2 := by simp [iOf]
@[simp] theorem iSeq_ap : iSeq f δ s = (f δ s).bind fun p => M.of p.1.items p.2 := by simp [iSeq]
@[simp] theorem iSeqT_ap : iSeqT f δ s = (f δ s).bind fun p => M.of (lfT p.1) p.2 := by simp [iSeqT]

@[simp] theorem sNil_ap : sNil δ s = some (.nx δ, s) := rfl
@[simp] theorem sNo_ap : sNo δ s = none := rfl
@[simp] theorem sRet_ap : sRet f δ s = (f δ s).bind fun p => some (.rt p.1, p.2) := by simp [sRet]
@[simp] theorem sExp_ap : sExp f δ s = (f δ s).bind fun p => some (.nx δ, p.2) := by simp [sExp]
@[simp] theorem sSet_ap : sSet i f δ s = (f δ s).bind fun p => if p.1.lf = true then some (.nx (δ.set i (.rd p.1)), p.2) else none := by
  simp only [sSet, bd_ap]; congr; funext k; split <;> rfl
@[simp] theorem sOwn_ap : sOwn i f δ s = (f δ s).bind fun p => some (.nx (δ.set i (.ow p.1)), p.2) := by simp [sOwn]
@[simp] theorem sIf_ap (a b : FS) : sIf p a b δ s = (p δ s).bind fun k => if k.1 = true then a δ k.2 else b δ k.2 := by
  simp only [sIf, bd_ap]; congr; funext k; split <;> rfl
@[simp] theorem sSeq_ap (a b : FS) : sSeq a b δ s = (a δ s).bind fun o => match o.1 with | .nx δ1 => b δ1 o.2 | o1 => some (o1, o.2) := by
  simp only [sSeq, bd_ap]; congr; funext k; obtain ⟨o, t⟩ := k; cases o <;> rfl
theorem seq_nx {a b : FS} {δ1 : Ev} {s1 : Src} (h : a δ s = some (.nx δ1, s1)) : sSeq a b δ s = b δ1 s1 := by rw [sSeq_ap, h]; rfl
@[simp] theorem sTg_ap (g : D → Ev → Option Ev) : sTg f g δ s = (f δ s).bind fun p => (M.of (if p.1.lf = true then g p.1 δ else none) p.2).bind fun q => some (.nx q.1, q.2) := by simp [sTg]
@[simp] theorem sTl_ap (n : Nat) (gs : List D → Ev → Option Ev) : sTl f n gs δ s = (f δ s).bind fun p => (M.of (match p.1 with | .lst ds => if ds.length = n ∧ lfs ds = true then gs ds δ else none | _ => none) p.2).bind fun q => some (.nx q.1, q.2) := by
  simp only [sTl, bd_ap] <;> congr
@[simp] theorem sPar_ap : sPar i j fs δ s = (fs δ s).bind fun p => match p.1 with | [d, e] => if lfs [d, e] = true then some (.nx ((δ.set i (.rd d)).set j (.rd e)), p.2) else none | _ => none := by
  simp only [sPar, bd_ap]; congr; funext k; obtain ⟨d, t⟩ := k; exact match d with
  | [] => rfl
  | [_] => rfl
  | [x, y] => by
    by_cases h : lfs [x, y] = true
    · show (if lfs [x, y] = true then M.ret _ else M.no) t = if lfs [x, y] = true then _ else _
      rw [if_pos h, if_pos h]; rfl
    · show (if lfs [x, y] = true then M.ret _ else M.no) t = if lfs [x, y] = true then _ else _
      rw [if_neg h, if_neg h]; rfl
  | _ :: _ :: _ :: _ => rfl
@[simp] theorem sAug_ap (o : D → D → Option D) : sAug i o f δ s = (M.of (gt δ i) s).bind fun x => (f δ x.2).bind fun y => (M.of (o x.1 y.1) y.2).bind fun z => if z.1.lf = true then some (.nx (δ.set i (.rd z.1)), z.2) else none := by
  simp only [sAug, bd_ap]; congr; funext x; congr; funext y; congr; funext z; split <;> rfl
@[simp] theorem sApp_ap {ds : List D} (hd : δ[i]? = some (.ow (.lst ds))) : sApp i f δ s = (f δ s).bind fun p => if p.1.lf = true ∧ ds.length < 1000000 then some (.nx (δ.set i (.ow (.lst (ds ++ [p.1])))), p.2) else none := by
  simp only [sApp, hd, bd_ap]; congr; funext k; split <;> rfl
@[simp] theorem sAppM_ap {ds es : List D} (hd : δ[i]? = some (.ow (.lst ds))) (he : δ[j]? = some (.ow (.lst es))) : sAppM i j δ s = if ds.length < 1000000 then some (.nx ((δ.set j .no).set i (.ow (.lst (ds ++ [.lst es])))), s) else none := by
  simp only [sAppM, hd, he]; split <;> rfl
@[simp] theorem sFor_ap (h : FI) (tg : D → Ev → Option Ev) (body : FS) : sFor h tg body δ s = (h δ s).bind fun p => fLp tg body p.1 δ p.2 := by simp [sFor]
@[simp] theorem eLc_ap (h : FI) (vs : List Nat) (g : D → Ev → Option Ev) (tt : Ev → M Bool) (te : FE) : eLc h vs g tt te δ s = (h δ s).bind fun p => if p.1.length ≤ 1000000 then (cLp vs g tt te δ p.1 p.2).bind fun q => some (.lst q.1, q.2) else none := by
  simp only [eLc, bd_ap]; congr; funext k; split <;> simp
theorem run_rt {n : Nat} {g : FS} {ds : List D} {d : D} {s1 : Src} (h : g (ent n ds) s = some (.rt d, s1)) : run n g ds s = some (d, s1) := by
  simp only [run, bd_ap, h]; rfl
theorem run_nx {n : Nat} {g : FS} {ds : List D} {δ1 : Ev} {s1 : Src} (h : g (ent n ds) s = some (.nx δ1, s1)) : run n g ds s = some (.non, s1) := by
  simp only [run, bd_ap, h]; rfl
end
@[simp] theorem gt_nil (i : Nat) : gt [] i = none := rfl
@[simp] theorem gt_zero (a : Sl) (l : Ev) : gt (a :: l) 0 = a.d := rfl
@[simp] theorem gt_succ (a : Sl) (l : Ev) (n : Nat) : gt (a :: l) (n + 1) = gt l n := rfl
@[simp] theorem sl_rd (d : D) : (Sl.rd d).d = some d := rfl
@[simp] theorem sl_ow (d : D) : (Sl.ow d).d = some d := rfl
@[simp] theorem sl_no : (Sl.no).d = none := rfl
@[simp] theorem gN_ap (i : Nat) (d : D) (δ : Ev) : gN i d δ = some (δ.set i (.rd d)) := rfl
@[simp] theorem gs0_ap (δ : Ev) : gs0 [] δ = some δ := rfl
@[simp] theorem gsC_ap (g : D → Ev → Option Ev) (gs : List D → Ev → Option Ev) (d : D) (r : List D) (δ : Ev) : gsC g gs (d :: r) δ = (g d δ).bind (gs r) := rfl
@[simp] theorem gT_ap (n : Nat) (gs : List D → Ev → Option Ev) (ds : List D) (δ : Ev) : gT n gs (.tup ds) δ = if ds.length = n then gs ds δ else none := rfl
@[simp] theorem wipe0 (δ : Ev) : wipeE δ [] = δ := rfl
@[simp] theorem wipe1 (δ : Ev) (v : Nat) (vs : List Nat) : wipeE δ (v :: vs) = (wipeE δ vs).set v .no := rfl
@[simp] theorem lf_int (i : Int) : (D.int i).lf = true := rfl
@[simp] theorem lf_bl (i : Bool) : (D.bl i).lf = true := rfl
@[simp] theorem lf_str (i : Str) : (D.str i).lf = true := rfl
@[simp] theorem lf_non : (D.non).lf = true := rfl
@[simp] theorem lf_dct (i : List (Str × Str)) : (D.dct i).lf = true := rfl
@[simp] theorem lf_tup (ds : List D) : (D.tup ds).lf = lfs ds := by simp [D.lf]
@[simp] theorem lf_tupk (ds : List D) : (D.tupk ds).lf = lfs ds := by simp [D.lf]
@[simp] theorem lfs_nil : lfs [] = true := by simp [lfs]
@[simp] theorem lfs_cons (d : D) (ds : List D) : lfs (d :: ds) = (d.lf && lfs ds) := by simp [lfs]
@[simp] theorem lfs_app (ds es : List D) : lfs (ds ++ es) = (lfs ds && lfs es) := by
  induction ds with
  | nil => simp
  | cons d ds ih => simp [ih, Bool.and_assoc]
theorem lfs_map {α : Type} {f : α → D} (h : ∀ a, (f a).lf = true) : ∀ l : List α, lfs (l.map f) = true
  | [] => by simp
  | a :: l => by simp [h, lfs_map h l]
@[simp] theorem lfs_ints (l : List Int) : lfs (l.map D.int) = true := lfs_map (fun _ => rfl) l
@[simp] theorem tru_bl (b : Bool) : truD (.bl b) = some b := rfl
@[simp] theorem tru_int (i : Int) : truD (.int i) = some (i != 0) := rfl
@[simp] theorem items_tup (ds : List D) : (D.tup ds).items = some ds := rfl
@[simp] theorem items_lst (ds : List D) : (D.lst ds).items = some ds := rfl
@[simp] theorem items_tupk (ds : List D) : (D.tupk ds).items = some ds := rfl
@[simp] theorem lfT_tup (ds : List D) : lfT (.tup ds) = if lfs ds = true then some ds else none := rfl
@[simp] theorem lfT_tupk (ds : List D) : lfT (.tupk ds) = if lfs ds = true then some ds else none := rfl
@[simp] theorem add_int (i j : Int) : dAdd (.int i) (.int j) = some (.int (i + j)) := rfl
@[simp] theorem add_tup (x y : List D) : dAdd (.tup x) (.tup y) = if x.length + y.length ≤ 1000000 then some (.tup (x ++ y)) else none := rfl
@[simp] theorem iadd_int (i j : Int) : dIAdd (.int i) (.int j) = some (.int (i + j)) := rfl
@[simp] theorem sub_int (i j : Int) : dSub (.int i) (.int j) = some (.int (i - j)) := rfl
theorem mul_int {i j : Int} (h : mulC i j = true) : dMul (.int i) (.int j) = some (.int (i * j)) := if_pos h
theorem mulC_l {i j : Int} (h : -1000000 ≤ i ∧ i ≤ 1000000) : mulC i j = true := by
  unfold mulC
  rw [decide_eq_true (show i.natAbs < 2 ^ 64 by omega)]; rfl
theorem mulC_r {i j : Int} (h : -1000000 ≤ j ∧ j ≤ 1000000) : mulC i j = true := by
  unfold mulC
  rw [decide_eq_true (show j.natAbs < 2 ^ 64 by omega), Bool.or_true]; rfl
@[simp] theorem neg_int (i : Int) : dNeg (.int i) = some (.int (-i)) := rfl
@[simp] theorem lt_int (i j : Int) : dLt (.int i) (.int j) = some (.bl (decide (i < j))) := rfl
@[simp] theorem le_int (i j : Int) : dLe (.int i) (.int j) = some (.bl (decide (i ≤ j))) := rfl
@[simp] theorem gt_int (i j : Int) : dGt (.int i) (.int j) = some (.bl (decide (j < i))) := rfl
@[simp] theorem ge_int (i j : Int) : dGe (.int i) (.int j) = some (.bl (decide (j ≤ i))) := rfl
theorem eqv_int (i j : Int) : (D.int i).eqv (.int j) = decide (i = j) := by
  show PyData.eqv (.int i) (.int j) = _
  unfold PyData.eqv
  rw [Bool.beq_eq_decide_eq]
@[simp] theorem eq_int (i j : Int) : dEq (.int i) (.int j) = some (.bl (decide (i = j))) := by
  show (if (true && true) = true then some (D.bl ((D.int i).eqv (.int j))) else none) = _
  rw [eqv_int]; rfl
@[simp] theorem ne_int (i j : Int) : dNe (.int i) (.int j) = some (.bl (!decide (i = j))) := by
  show (if (true && true) = true then some (D.bl (!(D.int i).eqv (.int j))) else none) = _
  rw [eqv_int]; rfl
theorem eqv_bl (i j : Bool) : (D.bl i).eqv (.bl j) = decide (i = j) := by
  show PyData.eqv (.bool i) (.bool j) = _
  unfold PyData.eqv
  rw [Bool.beq_eq_decide_eq]
@[simp] theorem eq_bl (i j : Bool) : dEq (.bl i) (.bl j) = some (.bl (decide (i = j))) := by
  show (if (true && true) = true then some (D.bl ((D.bl i).eqv (.bl j))) else none) = _
  rw [eqv_bl]; rfl
@[simp] theorem ne_bl (i j : Bool) : dNe (.bl i) (.bl j) = some (.bl (!decide (i = j))) := by
  show (if (true && true) = true then some (D.bl (!(D.bl i).eqv (.bl j))) else none) = _
  rw [eqv_bl]; rfl
theorem eqv_str (x y : Str) : (D.str x).eqv (.str y) = (x == y) := by
  show PyData.eqv (.str x) (.str y) = _
  unfold PyData.eqv
  rfl
theorem dOk_str {x : Str} (n : Nat) (h : PyData.strOk x = true) : dOk n (.str x) = true := by cases n <;> exact h
theorem eq_str {x y : Str} (h : PyData.strOk x = true) (h2 : PyData.strOk y = true) : dEq (.str x) (.str y) = some (.bl (x == y)) := by
  rw [dEq, dOk_str _ h, dOk_str _ h2, eqv_str]; rfl
theorem eqv_tup (xs ys : List D) : (D.tup xs).eqv (.tup ys) = PyData.eqvAll (pys xs) (pys ys) := by
  show PyData.eqv (D.tup xs).py (D.tup ys).py = _
  rw [D.py, D.py, PyData.eqv]
theorem eqvAll_ints : ∀ xs ys : List Int, PyData.eqvAll (pys (xs.map .int)) (pys (ys.map .int)) = decide (xs = ys)
  | [], [] => rfl
  | [], y :: ys => by rw [List.map_nil, List.map_cons, pys, pys, PyData.eqvAll]; rfl
  | x :: xs, [] => by rw [List.map_nil, List.map_cons, pys, pys, PyData.eqvAll]; rfl
  | x :: xs, y :: ys => by
    rw [List.map_cons, List.map_cons, pys, pys, PyData.eqvAll, eqvAll_ints xs ys]
    have := eqv_int x y
    unfold D.eqv at this
    rw [this]
    by_cases h1 : x = y
    · subst h1
      by_cases h2 : xs = ys
      · subst h2; simp
      · simp [h2]
    · simp [h1]
theorem dOk_ints {n : Nat} (xs : List Int) : dOk (n + 1) (.tup (xs.map .int)) = true := by
  rw [dOk, List.all_map]
  exact List.all_eq_true.mpr fun x _ => by cases n <;> rfl
theorem eq_ints (xs ys : List Int) : dEq (.tup (xs.map .int)) (.tup (ys.map .int)) = some (.bl (decide (xs = ys))) := by
  unfold dEq
  rw [dOk_ints, dOk_ints, eqv_tup, eqvAll_ints]; rfl
theorem ne_ints (xs ys : List Int) : dNe (.tup (xs.map .int)) (.tup (ys.map .int)) = some (.bl (!decide (xs = ys))) := by
  unfold dNe
  rw [dOk_ints, dOk_ints, eqv_tup, eqvAll_ints]; rfl
@[simp] theorem ix_int (a : D) (i : Int) : dIx a (.int i) = a.items.bind fun xs => atI xs i := rfl
theorem at_nat {α : Type} {xs : List α} {j : Nat} {v : α} (h : xs[j]? = some v) : atI xs (j : Int) = some v := atI_nat h
theorem at_last {α : Type} (xs : List α) (v : α) : atI (xs ++ [v]) (-1) = some v := atI_last xs v
@[simp] theorem at0 {α : Type} (a : α) (l : List α) : atI (a :: l) 0 = some a := atI_nat (j := 0) rfl
@[simp] theorem at1 {α : Type} (a b : α) (l : List α) : atI (a :: b :: l) 1 = some b := atI_nat (j := 1) rfl
@[simp] theorem at2 {α : Type} (a b c : α) (l : List α) : atI (a :: b :: c :: l) 2 = some c := atI_nat (j := 2) rfl
@[simp] theorem at3 {α : Type} (a b c d : α) (l : List α) : atI (a :: b :: c :: d :: l) 3 = some d := atI_nat (j := 3) rfl
@[simp] theorem len_tup (xs : List D) : bLen [.tup xs] = some (.int xs.length) := rfl
@[simp] theorem len_lst (xs : List D) : bLen [.lst xs] = some (.int xs.length) := rfl
@[simp] theorem len_tupk (xs : List D) : bLen [.tupk xs] = some (.int xs.length) := rfl
@[simp] theorem abs_i (i : Int) : bAbs [.int i] = some (.int (if i < 0 then -i else i)) := rfl
@[simp] theorem max2_i (i j : Int) : bMax2 [.int i, .int j] = some (.int (if j > i then j else i)) := rfl
@[simp] theorem min2_i (i j : Int) : bMin2 [.int i, .int j] = some (.int (if j < i then j else i)) := rfl
@[simp] theorem min3_i (a b c : Int) : bMin3 [.int a, .int b, .int c] = some (.int (if b < a then (if c < b then c else b) else (if c < a then c else a))) := rfl
@[simp] theorem tup_lst (xs : List D) : bTup [.lst xs] = some (.tup xs) := rfl
@[simp] theorem tup_tup (xs : List D) : bTup [.tup xs] = some (.tup xs) := rfl
@[simp] theorem tupk_lst (xs : List D) : bTupk [.lst xs] = some (.tupk xs) := rfl
@[simp] theorem any_lst (xs : List D) : bAny [.lst xs] = (boolL xs).map fun bs => .bl (bs.any id) := rfl
@[simp] theorem all_lst (xs : List D) : bAll [.lst xs] = (boolL xs).map fun bs => .bl (bs.all id) := rfl
theorem boolL_map {α : Type} (f : α → Bool) : ∀ l : List α, boolL (l.map fun a => .bl (f a)) = some (l.map f)
  | [] => rfl
  | a :: l => by rw [List.map_cons, boolL, boolL_map f l]; rfl
theorem intL_map {α : Type} (f : α → Int) : ∀ l : List α, intL (l.map fun a => .int (f a)) = some (l.map f)
  | [] => rfl
  | a :: l => by rw [List.map_cons, intL, intL_map f l]; rfl
@[simp] theorem isi_tup (T : String) (ds : List D) : isiD T (.tup ds) = some (.bl (isTy "tuple" T)) := rfl
@[simp] theorem isi_tupk (T : String) (ds : List D) : isiD T (.tupk ds) = some (.bl (isTy "tuple" T)) := rfl
@[simp] theorem isi_int (T : String) (i : Int) : isiD T (.int i) = some (.bl (isTy "int" T)) := rfl
@[simp] theorem isi_str (T : String) (i : Str) : isiD T (.str i) = some (.bl (isTy "str" T)) := rfl
@[simp] theorem ty1 : isTy "tuple" "tuple" = true := by decide
@[simp] theorem ty2 : isTy "int" "int" = true := by decide
@[simp] theorem ty3 : isTy "int" "bool" = false := by decide
@[simp] theorem ty4 : isTy "str" "str" = true := by decide
theorem rg1_i (j : Int) : rg1 [.int j] = if j.natAbs ≤ 1000000 then some (rngD 0 j.toNat) else none := rfl
theorem rg2_i (i j : Int) : rg2 [.int i, .int j] = if i.natAbs ≤ 1000000 ∧ j.natAbs ≤ 1000000 then some (rngD i (j - i).toNat) else none := rfl
@[simp] theorem ent_eq (n : Nat) (ds : List D) : ent n ds = ds.map .rd ++ List.replicate (n - ds.length) .no := rfl
/-- loops that leave the source -/
theorem fLp_inv {tg : D → Ev → Option Ev} {body : FS} (I : Nat → Ev → Prop) {s : Src} : ∀ (ds : List D) (k : Nat) (δ : Ev), I k δ →
    (∀ (i : Nat) (d : D) (δ : Ev), ds[i]? = some d → I (k + i) δ → d.lf = true ∧ ∃ δ1 δ2, tg d δ = some δ1 ∧ body δ1 s = some (.nx δ2, s) ∧ I (k + i + 1) δ2) → ∃ δ', fLp tg body ds δ s = some (.nx δ', s) ∧ I (k + ds.length) δ'
  | [], k, δ, h, _ => ⟨δ, rfl, h⟩
  | d :: ds, k, δ, h, hs => by
    obtain ⟨hl, δ1, δ2, h1, h2, h3⟩ := hs 0 d δ rfl h
    obtain ⟨δ', h4, h5⟩ := fLp_inv I ds (k + 1) δ2 h3 fun i e δ he hi => by
      have := hs (i + 1) e δ (by simpa using he) (by rw [show k + (i + 1) = k + 1 + i by omega]; exact hi)
      rw [show k + (i + 1) + 1 = k + 1 + i + 1 by omega] at this
      exact this
    refine ⟨δ', ?_, by rw [List.length_cons, show k + (ds.length + 1) = k + 1 + ds.length by omega]; exact h5⟩
    rw [fLp]
    simp only [bd_ap, hl, if_true, h1, of_some, Option.bind_some, h2]
    exact h4
/-- comprehensions without draws -/
theorem cLp_map {vs : List Nat} {g : D → Ev → Option Ev} {tt : Ev → M Bool} {te : FE} {δ : Ev} {s : Src} {α : Type} (en : α → D) (f : α → D) : ∀ (l : List α), (∀ a ∈ l, ∃ δ1, g (en a) (wipeE δ vs) = some δ1 ∧ tt δ1 s = some (true, s) ∧ te δ1 s = some (f a, s)) →
    cLp vs g tt te δ (l.map en) s = some (l.map f, s)
  | [], _ => rfl
  | a :: l, h => by
    obtain ⟨δ1, h1, h2, h3⟩ := h a List.mem_cons_self
    rw [List.map_cons, cLp]
    simp only [bd_ap, h1, of_some, Option.bind_some, h2, if_true, h3, cLp_map en f l fun b hb => h b (List.mem_cons_of_mem _ hb), ret_ap, List.map_cons]
theorem rngD_map : ∀ (n : Nat) (lo : Int), rngD lo n = (List.range n).map fun i => D.int (lo + (i : Nat))
  | 0, _ => rfl
  | n + 1, lo => by
    rw [rngD, rngD_map n, List.range_succ_eq_map, List.map_cons, List.map_map]
    congr 1
    · simp
    · refine List.map_congr_left fun i _ => ?_
      show D.int (lo + 1 + (i : Int)) = D.int (lo + ((i + 1 : Nat) : Int))
      congr 1; omega
theorem lc_eq {h : FI} {vs : List Nat} {g : D → Ev → Option Ev} {tt : Ev → M Bool} {te : FE} {δ : Ev} {s s1 s2 : Src} {ds ys : List D} (h1 : h δ s = some (ds, s1)) (hl : ds.length ≤ 1000000) (hc : cLp vs g tt te δ ds s1 = some (ys, s2)) : eLc h vs g tt te δ s = some (.lst ys, s2) := by
  rw [eLc_ap, h1, Option.bind_some, if_pos hl, hc]; rfl
/-- what range(n) walks over -/
def rgs (n : Nat) : List D := (List.range n).map fun i => .int (i : Nat)
theorem rg1_n {n : Nat} (h : n ≤ 1000000) : rg1 [.int (n : Nat)] = some (rgs n) := by
  rw [rg1_i, if_pos (by omega), rngD_map, Int.toNat_natCast]
  congr 1
  exact List.map_congr_left fun i _ => by rw [Int.zero_add]
theorem rg1_s {n : Nat} (h : n < 1000000) : rg1 [.int ((n : Int) + 1)] = some (rgs (n + 1)) := rg1_n (n := n + 1) h
theorem rgs_len (n : Nat) : (rgs n).length = n := by simp [rgs]
theorem rgs_get {n i : Nat} (h : i < n) : (rgs n)[i]? = some (.int (i : Nat)) := by rw [rgs, List.getElem?_map, List.getElem?_range h]; rfl
theorem rgs_inv {n i : Nat} {d : D} (h : (rgs n)[i]? = some d) : i < n ∧ d = .int (i : Nat) := by
  have hi : i < n := by
    have := (List.getElem?_eq_some_iff.mp h).1
    rwa [rgs_len] at this
  rw [rgs_get hi] at h
  cases h
  exact ⟨hi, rfl⟩
/-- a comprehension over range(n) without draws -/
theorem cLp_rgs {vs : List Nat} {g : D → Ev → Option Ev} {tt : Ev → M Bool} {te : FE} {δ : Ev} {s : Src} (f : Nat → D) (n : Nat) (h : ∀ i, i < n → ∃ δ1, g (.int (i : Nat)) (wipeE δ vs) = some δ1 ∧ tt δ1 s = some (true, s) ∧ te δ1 s = some (f i, s)) :
    cLp vs g tt te δ (rgs n) s = some ((List.range n).map f, s) := cLp_map (fun i : Nat => D.int i) f _ fun i hi => h i (List.mem_range.mp hi)
theorem at_rg {α : Type} (f : Nat → α) {n j : Nat} (h : j < n) : atI ((List.range n).map f) (j : Int) = some (f j) := at_nat (by rw [List.getElem?_map, List.getElem?_range h]; rfl)
theorem at_rg_last {α : Type} (f : Nat → α) {n : Nat} : atI ((List.range (n + 1)).map f) (-1) = some (f n) := by
  rw [List.range_succ, List.map_append]; exact at_last _ _
end DL
set_option Elab.async false
set_option linter.all false
set_option maxRecDepth 100000
set_option maxHeartbeats 4000000
namespace K47
open PySem PySem.Spec PyProof.Rows L2 DL
/-! printed by gen.py -/
def topS (i : Nat) : Stmt := PySem.Challenge.pw_farandnear_k47_whole_turned_and_joined_w.main.body.getD i (.Pass ⟨0, 0, 0, 0⟩)
structure Tx (K : PySem.W.Frag) (mg : Str → Option Value) where
  f_is_integer : Addr
  fd_is_integer : FuncData
  F_is_integer : Fun K "is_integer" "is_integer" (topS 4) f_is_integer fd_is_integer
  g_is_integer : mg "is_integer" = some (.ref f_is_integer)
  b_is_integer : Binds K fd_is_integer ["value"] []
  f_check_words : Addr
  fd_check_words : FuncData
  F_check_words : Fun K "check_words" "check_words" (topS 7) f_check_words fd_check_words
  g_check_words : mg "check_words" = some (.ref f_check_words)
  b_check_words : Binds K fd_check_words ["one", "other", "costs"] []
  f_edit_table : Addr
  fd_edit_table : FuncData
  F_edit_table : Fun K "edit_table" "edit_table" (topS 8) f_edit_table fd_edit_table
  g_edit_table : mg "edit_table" = some (.ref f_edit_table)
  b_edit_table : Binds K fd_edit_table ["one", "other", "costs"] []
  f_edit_paper : Addr
  fd_edit_paper : FuncData
  F_edit_paper : Fun K "edit_paper" "edit_paper" (topS 9) f_edit_paper fd_edit_paper
  g_edit_paper : mg "edit_paper" = some (.ref f_edit_paper)
  b_edit_paper : Binds K fd_edit_paper ["one", "other", "costs"] []
  f_script_cost : Addr
  fd_script_cost : FuncData
  F_script_cost : Fun K "script_cost" "script_cost" (topS 10) f_script_cost fd_script_cost
  g_script_cost : mg "script_cost" = some (.ref f_script_cost)
  b_script_cost : Binds K fd_script_cost ["one", "other", "costs", "script"] []
  f_takes_edit : Addr
  fd_takes_edit : FuncData
  F_takes_edit : Fun K "takes_edit" "takes_edit" (topS 11) f_takes_edit fd_takes_edit
  g_takes_edit : mg "takes_edit" = some (.ref f_takes_edit)
  b_takes_edit : Binds K fd_takes_edit ["one", "other", "costs", "paper"] []
  f_is_table : Addr
  fd_is_table : FuncData
  F_is_table : Fun K "is_table" "is_table" (topS 12) f_is_table fd_is_table
  g_is_table : mg "is_table" = some (.ref f_is_table)
  b_is_table : Binds K fd_is_table ["table", "high", "wide"] []
  f_grows : Addr
  fd_grows : FuncData
  F_grows : Fun K "grows" "grows" (topS 13) f_grows fd_grows
  g_grows : mg "grows" = some (.ref f_grows)
  b_grows : Binds K fd_grows ["one", "other", "costs", "table"] []
  f_common : Addr
  fd_common : FuncData
  F_common : Fun K "common" "common" (topS 14) f_common fd_common
  g_common : mg "common" = some (.ref f_common)
  b_common : Binds K fd_common ["one", "other"] []
  f__law_begin : Addr
  fd__law_begin : FuncData
  F__law_begin : Fun K "_law_begin" "_law_begin" (topS 16) f__law_begin fd__law_begin
  g__law_begin : mg "_law_begin" = some (.ref f__law_begin)
  b__law_begin : Binds K fd__law_begin ["script"] []
  f__law_take : Addr
  fd__law_take : FuncData
  F__law_take : Fun K "_law_take" "_law_take" (topS 17) f__law_take fd__law_take
  g__law_take : mg "_law_take" = some (.ref f__law_take)
  b__law_take : Binds K fd__law_take ["d", "many"] []
  f__law_least : Addr
  fd__law_least : FuncData
  F__law_least : Fun K "_law_least" "_law_least" (topS 18) f__law_least fd__law_least
  g__law_least : mg "_law_least" = some (.ref f__law_least)
  b__law_least : Binds K fd__law_least ["one", "other", "costs"] []
  n_abs : mg "abs" = none
  n_any : mg "any" = none
  n_bool : mg "bool" = none
  n_enumerate : mg "enumerate" = none
  n_int : mg "int" = none
  n_isinstance : mg "isinstance" = none
  n_len : mg "len" = none
  n_list : mg "list" = none
  n_max : mg "max" = none
  n_min : mg "min" = none
  n_range : mg "range" = none
  n_str : mg "str" = none
  n_tuple : mg "tuple" = none
  c_MOST_LENGTH : ∃ t, mg "MOST_LENGTH" = some (.int 8 t)
section
variable {P : Program} {w : World} {K : PySem.W.Frag} {mg : Str → Option Value} {base : Heap}
/-! is_integer -/
theorem sc_is_integer : FnScope ["value"] ["value"] (defScope (topS 4)) := ⟨rfl, rfl, rfl, by decide +kernel, rfl, by decide +kernel, by decide +kernel⟩
def g_is_integer : FS := (sRet (eAnd (e1 (isiD "int") (eVar 0)) (eNot (e1 (isiD "bool") (eVar 0)))))
def F_is_integer : List D → M D := run 1 g_is_integer
theorem ok_is_integer (T : Tx K mg) : FnOk P w K mg base CX0 1 T.f_is_integer T.fd_is_integer ["value"] (spD 1 F_is_integer) :=
  fn_ok (N := ["value"]) T.F_is_integer sc_is_integer (by decide) (fun cdv A outer s H E hr => (show DSs _ _ g_is_integer from (ds_one (ds_ret (d_and (d_isi (by rfl) T.n_isinstance (by rfl) T.n_int PyProof.Rows.boot_int (d_var 0)) (d_one (d_not (d_isi (by rfl) T.n_isinstance (by rfl) T.n_bool (by decide +kernel) (d_var 0)))))))))
/-! check_words -/
theorem sc_check_words : FnScope ["one", "other", "costs", "word", "sign", "each"] ["one", "other", "costs"] (defScope (topS 7)) := ⟨rfl, rfl, rfl, by decide +kernel, rfl, by decide +kernel, by decide +kernel⟩
def c_check_words_1 : FE := (eLc (iSeq (eVar 3)) [4] (gN 4) bYes (eNot (eFn (fun ds => if ds.length = 1 then F_is_integer ds else M.no) (eAs (eVar 4) eAs0))))
def b_check_words_2 : FS := (sIf (bOr (bNot (bTr (e1 (isiD "tuple") (eVar 3)))) (bOr (bOf (e2 dGt (eCall bLen (eAs (eVar 3) eAs0)) (eC (.int 8)))) (bTr (eCall bAny (eAs c_check_words_1 eAs0))))) sNo sNil)
def c_check_words_3 : FE := (eLc (iSeq (eVar 2)) [5] (gN 5) bYes (eOr (eNot (eFn (fun ds => if ds.length = 1 then F_is_integer ds else M.no) (eAs (eVar 5) eAs0))) (e2 dLe (eVar 5) (eC (.int 0)))))
def g_check_words : FS := (sSeq (sFor (iSeqT (eTup (eAs (eVar 0) (eAs (eVar 1) eAs0)))) (gN 3) b_check_words_2)
  (sIf (bOr (bNot (bTr (e1 (isiD "tuple") (eVar 2)))) (bOr (bOf (e2 dNe (eCall bLen (eAs (eVar 2) eAs0)) (eC (.int 3)))) (bTr (eCall bAny (eAs c_check_words_3 eAs0))))) sNo sNil))
def F_check_words : List D → M D := run 6 g_check_words
theorem ok_check_words (T : Tx K mg) : FnOk P w K mg base CX0 2 T.f_check_words T.fd_check_words ["one", "other", "costs"] (spD 3 F_check_words) :=
  fn_ok (N := ["one", "other", "costs", "word", "sign", "each"]) T.F_check_words sc_check_words (by decide) (fun cdv A outer s H E hr => (show DSs _ _ g_check_words from (ds_cons (ds_for PassesOwn.never rfl (dif_seq (d_tup (da_cons (d_var 0) (da_cons (d_var 1) da_nil)))) (sg_name (i := 3) sc_check_words.nd rfl (by first | exact Or.inl rfl | exact Or.inr rfl)) (show DSs _ _ b_check_words_2 from (ds_one (ds_if (PW.pt (dw_or (dt_not (dt_tr (d_isi (by rfl) T.n_isinstance (by rfl) T.n_tuple PyProof.Rows.boot_tuple (d_var 3)))) (dw_or (dt_cmp o_gt (d_bi b_len (by rfl) T.n_len PySem.boot_len (da_cons (d_var 3) da_nil)) (d_glob (v := .int 8) (d := .int 8) rfl T.c_MOST_LENGTH.choose_spec ⟨_, rfl⟩ (fun _ _ => .int _))) (dw_or1 (dt_tr (d_bi (b_any rfl) (by rfl) T.n_any boot_any (da_cons (d_lc (own := [("sign", 4)]) rfl sc_check_words.nd (di_seq (d_var 3)) (blkOk_by (by kernel_rfl)) (fun _ _ _ _ _ => (dg_name (i := 4) sc_check_words.nd rfl (by first | exact Or.inl rfl | exact Or.inr rfl))) (fun _ _ _ _ _ => dts_nil) (fun _ _ _ _ _ => (d_not (d_fn (n := 1) ((ok_is_integer T).mono (by decide)) hr rfl T.g_is_integer T.F_is_integer.kp T.b_is_integer pass0 (da_cons (d_var 4) da_nil))))) da_nil))))))) (ds_one ds_no) ds_nil))))
  (ds_one (ds_if (PW.pt (dw_or (dt_not (dt_tr (d_isi (by rfl) T.n_isinstance (by rfl) T.n_tuple PyProof.Rows.boot_tuple (d_var 2)))) (dw_or (dt_cmp (o_ne hr.units) (d_bi b_len (by rfl) T.n_len PySem.boot_len (da_cons (d_var 2) da_nil)) d_int) (dw_or1 (dt_tr (d_bi (b_any rfl) (by rfl) T.n_any boot_any (da_cons (d_lc (own := [("each", 5)]) rfl sc_check_words.nd (di_seq (d_var 2)) (blkOk_by (by kernel_rfl)) (fun _ _ _ _ _ => (dg_name (i := 5) sc_check_words.nd rfl (by first | exact Or.inl rfl | exact Or.inr rfl))) (fun _ _ _ _ _ => dts_nil) (fun _ _ _ _ _ => (d_or (d_not (d_fn (n := 1) ((ok_is_integer T).mono (by decide)) hr rfl T.g_is_integer T.F_is_integer.kp T.b_is_integer pass0 (da_cons (d_var 5) da_nil))) (d_one (d_cmp o_le (d_var 5) d_int))))) da_nil))))))) (ds_one ds_no) ds_nil)))))
/-! edit_table -/
theorem sc_edit_table : FnScope ["one", "other", "costs", "drop", "add", "change", "rows", "sign", "row", "at", "another", "same"] ["one", "other", "costs"] (defScope (topS 8)) := ⟨rfl, rfl, rfl, by decide +kernel, rfl, by decide +kernel, by decide +kernel⟩
def c_edit_table_1 : FE := (eLc (iOf rg1 (eAs (e2 dAdd (eCall bLen (eAs (eVar 1) eAs0)) (eC (.int 1))) eAs0)) [9] (gN 9) bYes (eLf (e2 dMul (eVar 9) (eVar 4))))
def b_edit_table_2 : FS := (sSeq (sSet 11 (e2 dAdd (e2 dIx (e2 dIx (eVar 6) (e1 dNeg (eC (.int 1)))) (eVar 9)) (eIf (bOf (e2 dEq (eVar 7) (eVar 10))) (eC (.int 0)) (eVar 5))))
  (sApp 8 (eCall bMin3 (eAs (e2 dAdd (e2 dIx (e2 dIx (eVar 6) (e1 dNeg (eC (.int 1)))) (e2 dAdd (eVar 9) (eC (.int 1)))) (eVar 3)) (eAs (e2 dAdd (e2 dIx (eVar 8) (e1 dNeg (eC (.int 1)))) (eVar 4)) (eAs (eVar 11) eAs0))))))
def b_edit_table_3 : FS := (sSeq (sOwn 8 (eLst (eAs (eLf (e2 dAdd (e2 dIx (e2 dIx (eVar 6) (e1 dNeg (eC (.int 1)))) (eC (.int 0))) (eVar 3))) eAs0)))
  (sSeq (sFor (iOf en1T (eAs (eVar 1) eAs0)) (gT 2 (gsC (gN 9) (gsC (gN 10) gs0))) b_edit_table_2)
  (sAppM 6 8)))
def c_edit_table_4 : FE := (eLc (iSeq (eVar 6)) [8] (gN 8) bYes (eCall bTup (eAs (eVar 8) eAs0)))
def g_edit_table : FS := (sSeq (sExp (eFn (fun ds => if ds.length = 3 then F_check_words ds else M.no) (eAs (eVar 0) (eAs (eVar 1) (eAs (eVar 2) eAs0)))))
  (sSeq (sTg (eVar 2) (gT 3 (gsC (gN 3) (gsC (gN 4) (gsC (gN 5) gs0)))))
  (sSeq (sOwn 6 (eLst (eAs c_edit_table_1 eAs0)))
  (sSeq (sFor (iSeqT (eVar 0)) (gN 7) b_edit_table_3)
  (sRet (eCall bTup (eAs c_edit_table_4 eAs0)))))))
def F_edit_table : List D → M D := run 12 g_edit_table
theorem ok_edit_table (T : Tx K mg) : FnOk P w K mg base CX0 3 T.f_edit_table T.fd_edit_table ["one", "other", "costs"] (spD 3 F_edit_table) :=
  fn_ok (N := ["one", "other", "costs", "drop", "add", "change", "rows", "sign", "row", "at", "another", "same"]) T.F_edit_table sc_edit_table (by decide) (fun cdv A outer s H E hr => (show DSs _ _ g_edit_table from (ds_cons (ds_exp (d_fn (n := 3) ((ok_check_words T).mono (by decide)) hr rfl T.g_check_words T.F_check_words.kp T.b_check_words pass0 (da_cons (d_var 0) (da_cons (d_var 1) (da_cons (d_var 2) da_nil)))))
  (ds_cons (ds_asg (d_var 2) (sg_tup rfl (sgs_cons (sg_name (i := 3) sc_edit_table.nd rfl (by first | exact Or.inl rfl | exact Or.inr rfl)) (sgs_cons (sg_name (i := 4) sc_edit_table.nd rfl (by first | exact Or.inl rfl | exact Or.inr rfl)) (sgs_cons (sg_name (i := 5) sc_edit_table.nd rfl (by first | exact Or.inl rfl | exact Or.inr rfl)) sgs_nil)))))
  (ds_cons (ds_own (i := 6) sc_edit_table.nd rfl (by first | exact Or.inl rfl | exact Or.inr rfl) (df_lst (daf_cons (df_lc (own := [("at", 9)]) rfl sc_edit_table.nd (dif (dif_range1 (by rfl) T.n_range (da_cons (d_op o_add (d_bi b_len (by rfl) T.n_len PySem.boot_len (da_cons (d_var 1) da_nil)) d_int) da_nil))) (blkOk_by (by kernel_rfl)) (fun _ _ _ _ _ => (dg_name (i := 9) sc_edit_table.nd rfl (by first | exact Or.inl rfl | exact Or.inr rfl))) (fun _ _ _ _ _ => dts_nil) (fun _ _ _ _ _ => (df_lf (d_op o_mul (d_var 9) (d_var 4))))) daf_nil)))
  (ds_cons (ds_for PassesOwn.never rfl (dif_seq (d_var 0)) (sg_name (i := 7) sc_edit_table.nd rfl (by first | exact Or.inl rfl | exact Or.inr rfl)) (show DSs _ _ b_edit_table_3 from (ds_cons (ds_own (i := 8) sc_edit_table.nd rfl (by first | exact Or.inl rfl | exact Or.inr rfl) (df_lst (daf_cons (df_lf (d_op o_add (d_ix o_ix (d_ix o_ix (d_var 6) (d_un o_neg d_int)) d_int) (d_var 3))) daf_nil)))
  (ds_cons (ds_for PassesOwn.never rfl (dif_enum (by rfl) T.n_enumerate (da_cons (d_var 1) da_nil)) (sg_tup rfl (sgs_cons (sg_name (i := 9) sc_edit_table.nd rfl (by first | exact Or.inl rfl | exact Or.inr rfl)) (sgs_cons (sg_name (i := 10) sc_edit_table.nd rfl (by first | exact Or.inl rfl | exact Or.inr rfl)) sgs_nil))) (show DSs _ _ b_edit_table_2 from (ds_cons (ds_set (i := 11) sc_edit_table.nd rfl (by first | exact Or.inl rfl | exact Or.inr rfl) (d_op o_add (d_ix o_ix (d_ix o_ix (d_var 6) (d_un o_neg d_int)) (d_var 9)) (d_if (dt_cmp (o_eq hr.units) (d_var 7) (d_var 10)) d_int (d_var 5))))
  (ds_one (ds_app (i := 8) rfl (by first | exact Or.inl rfl | exact Or.inr (Or.inl rfl)) (d_bi (b_min3 rfl) (by rfl) T.n_min boot_min (da_cons (d_op o_add (d_ix o_ix (d_ix o_ix (d_var 6) (d_un o_neg d_int)) (d_op o_add (d_var 9) d_int)) (d_var 3)) (da_cons (d_op o_add (d_ix o_ix (d_var 8) (d_un o_neg d_int)) (d_var 4)) (da_cons (d_var 11) da_nil)))))))))
  (ds_one (ds_appM (i := 6) (j := 8) rfl (by first | exact Or.inl rfl | exact Or.inr (Or.inl rfl)) rfl (by first | exact Or.inl rfl | exact Or.inr (Or.inl rfl)) (by decide)))))))
  (ds_one (ds_ret (d_ty b_tup (by rfl) T.n_tuple PyProof.Rows.boot_tuple (da_cons (d_lc (own := [("row", 8)]) rfl sc_edit_table.nd (di_seq (d_var 6)) (blkOk_by (by kernel_rfl)) (fun _ _ _ _ _ => (dg_name (i := 8) sc_edit_table.nd rfl (by first | exact Or.inl rfl | exact Or.inr rfl))) (fun _ _ _ _ _ => dts_nil) (fun _ _ _ _ _ => (d_ty b_tup (by rfl) T.n_tuple PyProof.Rows.boot_tuple (da_cons (d_var 8) da_nil)))) da_nil))))))))))
/-! edit_paper -/
theorem sc_edit_paper : FnScope ["one", "other", "costs", "table", "drop", "add", "change", "left", "right", "script", "now"] ["one", "other", "costs"] (defScope (topS 9)) := ⟨rfl, rfl, rfl, by decide +kernel, rfl, by decide +kernel, by decide +kernel⟩
def b_edit_paper_1 : FS := (sSeq (sSet 10 (e2 dIx (e2 dIx (eVar 3) (eVar 7)) (eVar 8)))
  (sIf (bAnd (bOf (e2 dGt (eVar 7) (eC (.int 0)))) (bAnd (bOf (e2 dGt (eVar 8) (eC (.int 0)))) (bAnd (bOf (e2 dEq (e2 dIx (eVar 0) (e2 dSub (eVar 7) (eC (.int 1)))) (e2 dIx (eVar 1) (e2 dSub (eVar 8) (eC (.int 1)))))) (bOf (e2 dEq (e2 dIx (e2 dIx (eVar 3) (e2 dSub (eVar 7) (eC (.int 1)))) (e2 dSub (eVar 8) (eC (.int 1)))) (eVar 10)))))) (sSeq (sApp 9 (eC (.str "keep")))
  (sPar 7 8 (eAs (e2 dSub (eVar 7) (eC (.int 1))) (eAs (e2 dSub (eVar 8) (eC (.int 1))) eAs0)))) (sIf (bAnd (bOf (e2 dGt (eVar 7) (eC (.int 0)))) (bAnd (bOf (e2 dGt (eVar 8) (eC (.int 0)))) (bOf (e2 dEq (e2 dAdd (e2 dIx (e2 dIx (eVar 3) (e2 dSub (eVar 7) (eC (.int 1)))) (e2 dSub (eVar 8) (eC (.int 1)))) (eVar 6)) (eVar 10))))) (sSeq (sApp 9 (eC (.str "change")))
  (sPar 7 8 (eAs (e2 dSub (eVar 7) (eC (.int 1))) (eAs (e2 dSub (eVar 8) (eC (.int 1))) eAs0)))) (sIf (bAnd (bOf (e2 dGt (eVar 7) (eC (.int 0)))) (bOf (e2 dEq (e2 dAdd (e2 dIx (e2 dIx (eVar 3) (e2 dSub (eVar 7) (eC (.int 1)))) (eVar 8)) (eVar 4)) (eVar 10)))) (sSeq (sApp 9 (eC (.str "drop")))
  (sAug 7 dSub (eC (.int 1)))) (sSeq (sApp 9 (eC (.str "add")))
  (sAug 8 dSub (eC (.int 1))))))))
def t_edit_paper_2 : Ev → M Bool := (bOr (bOf (e2 dGt (eVar 7) (eC (.int 0)))) (bOf (e2 dGt (eVar 8) (eC (.int 0)))))
def g_edit_paper : FS := (sSeq (sSet 3 (eFn (fun ds => if ds.length = 3 then F_edit_table ds else M.no) (eAs (eVar 0) (eAs (eVar 1) (eAs (eVar 2) eAs0)))))
  (sSeq (sTg (eVar 2) (gT 3 (gsC (gN 4) (gsC (gN 5) (gsC (gN 6) gs0)))))
  (sSeq (sPar 7 8 (eAs (eCall bLen (eAs (eVar 0) eAs0)) (eAs (eCall bLen (eAs (eVar 1) eAs0)) eAs0)))
  (sSeq (sOwn 9 (eLst eAs0))
  (sSeq (wLp t_edit_paper_2 b_edit_paper_1 1000000)
  (sRet (eTup (eAs (e2 dIx (e2 dIx (eVar 3) (e1 dNeg (eC (.int 1)))) (e1 dNeg (eC (.int 1)))) (eAs (eCall bTupk (eAs (eRevL (eVar 9)) eAs0)) (eAs (eVar 3) eAs0))))))))))
def F_edit_paper : List D → M D := run 11 g_edit_paper
theorem ok_edit_paper (T : Tx K mg) : FnOk P w K mg base CX0 4 T.f_edit_paper T.fd_edit_paper ["one", "other", "costs"] (spD 3 F_edit_paper) :=
  fn_ok (N := ["one", "other", "costs", "table", "drop", "add", "change", "left", "right", "script", "now"]) T.F_edit_paper sc_edit_paper (by decide) (fun cdv A outer s H E hr => (show DSs _ _ g_edit_paper from (ds_cons (ds_set (i := 3) sc_edit_paper.nd rfl (by first | exact Or.inl rfl | exact Or.inr rfl) (d_fn (n := 3) ((ok_edit_table T).mono (by decide)) hr rfl T.g_edit_table T.F_edit_table.kp T.b_edit_table pass0 (da_cons (d_var 0) (da_cons (d_var 1) (da_cons (d_var 2) da_nil)))))
  (ds_cons (ds_asg (d_var 2) (sg_tup rfl (sgs_cons (sg_name (i := 4) sc_edit_paper.nd rfl (by first | exact Or.inl rfl | exact Or.inr rfl)) (sgs_cons (sg_name (i := 5) sc_edit_paper.nd rfl (by first | exact Or.inl rfl | exact Or.inr rfl)) (sgs_cons (sg_name (i := 6) sc_edit_paper.nd rfl (by first | exact Or.inl rfl | exact Or.inr rfl)) sgs_nil)))))
  (ds_cons (ds_par rfl sc_edit_paper.nd rfl rfl (by decide) rfl rfl (da_cons (d_bi b_len (by rfl) T.n_len PySem.boot_len (da_cons (d_var 0) da_nil)) (da_cons (d_bi b_len (by rfl) T.n_len PySem.boot_len (da_cons (d_var 1) da_nil)) da_nil)))
  (ds_cons (ds_own (i := 9) sc_edit_paper.nd rfl (by first | exact Or.inl rfl | exact Or.inr rfl) (df_lst daf_nil))
  (ds_cons (ds_while 1000000 PassesOwn.never (show DT _ _ t_edit_paper_2 from (PW.pt (dw_or (dt_cmp o_gt (d_var 7) d_int) (dw_or1 (dt_cmp o_gt (d_var 8) d_int))))) (show DSs _ _ b_edit_paper_1 from (ds_cons (ds_set (i := 10) sc_edit_paper.nd rfl (by first | exact Or.inl rfl | exact Or.inr rfl) (d_ix o_ix (d_ix o_ix (d_var 3) (d_var 7)) (d_var 8)))
  (ds_one (ds_if (PW.pt (dw_and (dt_cmp o_gt (d_var 7) d_int) (dw_and (dt_cmp o_gt (d_var 8) d_int) (dw_and (dt_cmp (o_eq hr.units) (d_ix o_ix (d_var 0) (d_op o_sub (d_var 7) d_int)) (d_ix o_ix (d_var 1) (d_op o_sub (d_var 8) d_int))) (dw_and1 (dt_cmp (o_eq hr.units) (d_ix o_ix (d_ix o_ix (d_var 3) (d_op o_sub (d_var 7) d_int)) (d_op o_sub (d_var 8) d_int)) (d_var 10))))))) (ds_cons (ds_app (i := 9) rfl (by first | exact Or.inl rfl | exact Or.inr (Or.inl rfl)) d_str)
  (ds_one (ds_par rfl sc_edit_paper.nd rfl rfl (by decide) rfl rfl (da_cons (d_op o_sub (d_var 7) d_int) (da_cons (d_op o_sub (d_var 8) d_int) da_nil))))) (ds_one (ds_if (PW.pt (dw_and (dt_cmp o_gt (d_var 7) d_int) (dw_and (dt_cmp o_gt (d_var 8) d_int) (dw_and1 (dt_cmp (o_eq hr.units) (d_op o_add (d_ix o_ix (d_ix o_ix (d_var 3) (d_op o_sub (d_var 7) d_int)) (d_op o_sub (d_var 8) d_int)) (d_var 6)) (d_var 10)))))) (ds_cons (ds_app (i := 9) rfl (by first | exact Or.inl rfl | exact Or.inr (Or.inl rfl)) d_str)
  (ds_one (ds_par rfl sc_edit_paper.nd rfl rfl (by decide) rfl rfl (da_cons (d_op o_sub (d_var 7) d_int) (da_cons (d_op o_sub (d_var 8) d_int) da_nil))))) (ds_one (ds_if (PW.pt (dw_and (dt_cmp o_gt (d_var 7) d_int) (dw_and1 (dt_cmp (o_eq hr.units) (d_op o_add (d_ix o_ix (d_ix o_ix (d_var 3) (d_op o_sub (d_var 7) d_int)) (d_var 8)) (d_var 4)) (d_var 10))))) (ds_cons (ds_app (i := 9) rfl (by first | exact Or.inl rfl | exact Or.inr (Or.inl rfl)) d_str)
  (ds_one (ds_aug (i := 7) sc_edit_paper.nd rfl (by first | exact Or.inl rfl | exact Or.inr rfl) d_int o_isub))) (ds_cons (ds_app (i := 9) rfl (by first | exact Or.inl rfl | exact Or.inr (Or.inl rfl)) d_str)
  (ds_one (ds_aug (i := 8) sc_edit_paper.nd rfl (by first | exact Or.inl rfl | exact Or.inr rfl) d_int o_isub))))))))))))
  (ds_one (ds_ret (d_tup (da_cons (d_ix o_ix (d_ix o_ix (d_var 3) (d_un o_neg d_int)) (d_un o_neg d_int)) (da_cons (d_ty b_tupk (by rfl) T.n_tuple PyProof.Rows.boot_tuple (da_cons (d_revL (d_var 9)) da_nil)) (da_cons (d_var 3) da_nil)))))))))))))
/-! script_cost -/
theorem sc_script_cost : FnScope ["one", "other", "costs", "script", "drop", "add", "change", "left", "right", "total", "word"] ["one", "other", "costs", "script"] (defScope (topS 10)) := ⟨rfl, rfl, rfl, by decide +kernel, rfl, by decide +kernel, by decide +kernel⟩
def b_script_cost_1 : FS := (sIf (bOf (e2 dIn (eVar 10) (eTup (eAs (eC (.str "keep")) (eAs (eC (.str "change")) eAs0))))) (sSeq (sIf (bOr (bOf (e2 dGe (eVar 7) (eCall bLen (eAs (eVar 0) eAs0)))) (bOr (bOf (e2 dGe (eVar 8) (eCall bLen (eAs (eVar 1) eAs0)))) (bAnd (bOf (e2 dEq (eVar 10) (eC (.str "keep")))) (bOf (e2 dNe (e2 dIx (eVar 0) (eVar 7)) (e2 dIx (eVar 1) (eVar 8))))))) (sRet (eC .non)) sNil)
  (sSeq (sAug 9 dIAdd (eIf (bOf (e2 dEq (eVar 10) (eC (.str "change")))) (eVar 6) (eC (.int 0))))
  (sPar 7 8 (eAs (e2 dAdd (eVar 7) (eC (.int 1))) (eAs (e2 dAdd (eVar 8) (eC (.int 1))) eAs0))))) (sIf (bOf (e2 dEq (eVar 10) (eC (.str "drop")))) (sPar 9 7 (eAs (e2 dAdd (eVar 9) (eVar 4)) (eAs (e2 dAdd (eVar 7) (eC (.int 1))) eAs0))) (sIf (bOf (e2 dEq (eVar 10) (eC (.str "add")))) (sPar 9 8 (eAs (e2 dAdd (eVar 9) (eVar 5)) (eAs (e2 dAdd (eVar 8) (eC (.int 1))) eAs0))) (sRet (eC .non)))))
def g_script_cost : FS := (sSeq (sTg (eVar 2) (gT 3 (gsC (gN 4) (gsC (gN 5) (gsC (gN 6) gs0)))))
  (sSeq (sTg (eTup (eAs (eC (.int 0)) (eAs (eC (.int 0)) (eAs (eC (.int 0)) eAs0)))) (gT 3 (gsC (gN 7) (gsC (gN 8) (gsC (gN 9) gs0)))))
  (sSeq (sFor (iSeqT (eVar 3)) (gN 10) b_script_cost_1)
  (sRet (eIf (bOf (e2 dEq (eTup (eAs (eVar 7) (eAs (eVar 8) eAs0))) (eTup (eAs (eCall bLen (eAs (eVar 0) eAs0)) (eAs (eCall bLen (eAs (eVar 1) eAs0)) eAs0))))) (eVar 9) (eC .non))))))
def F_script_cost : List D → M D := run 11 g_script_cost
theorem ok_script_cost (T : Tx K mg) : FnOk P w K mg base CX0 1 T.f_script_cost T.fd_script_cost ["one", "other", "costs", "script"] (spD 4 F_script_cost) :=
  fn_ok (N := ["one", "other", "costs", "script", "drop", "add", "change", "left", "right", "total", "word"]) T.F_script_cost sc_script_cost (by decide) (fun cdv A outer s H E hr => (show DSs _ _ g_script_cost from (ds_cons (ds_asg (d_var 2) (sg_tup rfl (sgs_cons (sg_name (i := 4) sc_script_cost.nd rfl (by first | exact Or.inl rfl | exact Or.inr rfl)) (sgs_cons (sg_name (i := 5) sc_script_cost.nd rfl (by first | exact Or.inl rfl | exact Or.inr rfl)) (sgs_cons (sg_name (i := 6) sc_script_cost.nd rfl (by first | exact Or.inl rfl | exact Or.inr rfl)) sgs_nil)))))
  (ds_cons (ds_asg (d_tup (da_cons d_int (da_cons d_int (da_cons d_int da_nil)))) (sg_tup rfl (sgs_cons (sg_name (i := 7) sc_script_cost.nd rfl (by first | exact Or.inl rfl | exact Or.inr rfl)) (sgs_cons (sg_name (i := 8) sc_script_cost.nd rfl (by first | exact Or.inl rfl | exact Or.inr rfl)) (sgs_cons (sg_name (i := 9) sc_script_cost.nd rfl (by first | exact Or.inl rfl | exact Or.inr rfl)) sgs_nil)))))
  (ds_cons (ds_for PassesOwn.never rfl (dif_seq (d_var 3)) (sg_name (i := 10) sc_script_cost.nd rfl (by first | exact Or.inl rfl | exact Or.inr rfl)) (show DSs _ _ b_script_cost_1 from (ds_one (ds_if (dt_cmp o_in (d_var 10) (d_tup (da_cons d_str (da_cons d_str da_nil)))) (ds_cons (ds_if (PW.pt (dw_or (dt_cmp o_ge (d_var 7) (d_bi b_len (by rfl) T.n_len PySem.boot_len (da_cons (d_var 0) da_nil))) (dw_or (dt_cmp o_ge (d_var 8) (d_bi b_len (by rfl) T.n_len PySem.boot_len (da_cons (d_var 1) da_nil))) (dw_or1 (PW.pt (dw_and (dt_cmp (o_eq hr.units) (d_var 10) d_str) (dw_and1 (dt_cmp (o_ne hr.units) (d_ix o_ix (d_var 0) (d_var 7)) (d_ix o_ix (d_var 1) (d_var 8)))))))))) (ds_one (ds_ret d_non)) ds_nil)
  (ds_cons (ds_aug (i := 9) sc_script_cost.nd rfl (by first | exact Or.inl rfl | exact Or.inr rfl) (d_if (dt_cmp (o_eq hr.units) (d_var 10) d_str) (d_var 6) d_int) o_iadd)
  (ds_one (ds_par rfl sc_script_cost.nd rfl rfl (by decide) rfl rfl (da_cons (d_op o_add (d_var 7) d_int) (da_cons (d_op o_add (d_var 8) d_int) da_nil)))))) (ds_one (ds_if (dt_cmp (o_eq hr.units) (d_var 10) d_str) (ds_one (ds_par rfl sc_script_cost.nd rfl rfl (by decide) rfl rfl (da_cons (d_op o_add (d_var 9) (d_var 4)) (da_cons (d_op o_add (d_var 7) d_int) da_nil)))) (ds_one (ds_if (dt_cmp (o_eq hr.units) (d_var 10) d_str) (ds_one (ds_par rfl sc_script_cost.nd rfl rfl (by decide) rfl rfl (da_cons (d_op o_add (d_var 9) (d_var 5)) (da_cons (d_op o_add (d_var 8) d_int) da_nil)))) (ds_one (ds_ret d_non))))))))))
  (ds_one (ds_ret (d_if (dt_cmp (o_eq hr.units) (d_tup (da_cons (d_var 7) (da_cons (d_var 8) da_nil))) (d_tup (da_cons (d_bi b_len (by rfl) T.n_len PySem.boot_len (da_cons (d_var 0) da_nil)) (da_cons (d_bi b_len (by rfl) T.n_len PySem.boot_len (da_cons (d_var 1) da_nil)) da_nil)))) (d_var 9) d_non))))))))
/-! grows -/
theorem sc_grows : FnScope ["one", "other", "costs", "table", "drop", "add", "change", "left", "right", "now", "step"] ["one", "other", "costs", "table"] (defScope (topS 13)) := ⟨rfl, rfl, rfl, by decide +kernel, rfl, by decide +kernel, by decide +kernel⟩
def b_grows_1 : FS := (sSeq (sSet 9 (e2 dIx (e2 dIx (eVar 3) (eVar 7)) (eVar 8)))
  (sSeq (sIf (bAnd (bOf (e2 dGt (eVar 7) (eC (.int 0)))) (bOf (e2 dGt (eVar 9) (e2 dAdd (e2 dIx (e2 dIx (eVar 3) (e2 dSub (eVar 7) (eC (.int 1)))) (eVar 8)) (eVar 4))))) (sRet (eC (.bl false))) sNil)
  (sSeq (sIf (bAnd (bOf (e2 dGt (eVar 8) (eC (.int 0)))) (bOf (e2 dGt (eVar 9) (e2 dAdd (e2 dIx (e2 dIx (eVar 3) (eVar 7)) (e2 dSub (eVar 8) (eC (.int 1)))) (eVar 5))))) (sRet (eC (.bl false))) sNil)
  (sIf (bAnd (bOf (e2 dGt (eVar 7) (eC (.int 0)))) (bOf (e2 dGt (eVar 8) (eC (.int 0))))) (sSeq (sSet 10 (eIf (bOf (e2 dEq (e2 dIx (eVar 0) (e2 dSub (eVar 7) (eC (.int 1)))) (e2 dIx (eVar 1) (e2 dSub (eVar 8) (eC (.int 1)))))) (eC (.int 0)) (eVar 6)))
  (sIf (bOf (e2 dGt (eVar 9) (e2 dAdd (e2 dIx (e2 dIx (eVar 3) (e2 dSub (eVar 7) (eC (.int 1)))) (e2 dSub (eVar 8) (eC (.int 1)))) (eVar 10)))) (sRet (eC (.bl false))) sNil)) sNil))))
def b_grows_2 : FS := (sFor (iOf rg1 (eAs (e2 dAdd (eCall bLen (eAs (eVar 1) eAs0)) (eC (.int 1))) eAs0)) (gN 8) b_grows_1)
def g_grows : FS := (sSeq (sTg (eVar 2) (gT 3 (gsC (gN 4) (gsC (gN 5) (gsC (gN 6) gs0)))))
  (sSeq (sFor (iOf rg1 (eAs (e2 dAdd (eCall bLen (eAs (eVar 0) eAs0)) (eC (.int 1))) eAs0)) (gN 7) b_grows_2)
  (sRet (eC (.bl true)))))
def F_grows : List D → M D := run 11 g_grows
theorem ok_grows (T : Tx K mg) : FnOk P w K mg base CX0 1 T.f_grows T.fd_grows ["one", "other", "costs", "table"] (spD 4 F_grows) :=
  fn_ok (N := ["one", "other", "costs", "table", "drop", "add", "change", "left", "right", "now", "step"]) T.F_grows sc_grows (by decide) (fun cdv A outer s H E hr => (show DSs _ _ g_grows from (ds_cons (ds_asg (d_var 2) (sg_tup rfl (sgs_cons (sg_name (i := 4) sc_grows.nd rfl (by first | exact Or.inl rfl | exact Or.inr rfl)) (sgs_cons (sg_name (i := 5) sc_grows.nd rfl (by first | exact Or.inl rfl | exact Or.inr rfl)) (sgs_cons (sg_name (i := 6) sc_grows.nd rfl (by first | exact Or.inl rfl | exact Or.inr rfl)) sgs_nil)))))
  (ds_cons (ds_for PassesOwn.never rfl (dif_range1 (by rfl) T.n_range (da_cons (d_op o_add (d_bi b_len (by rfl) T.n_len PySem.boot_len (da_cons (d_var 0) da_nil)) d_int) da_nil)) (sg_name (i := 7) sc_grows.nd rfl (by first | exact Or.inl rfl | exact Or.inr rfl)) (show DSs _ _ b_grows_2 from (ds_one (ds_for PassesOwn.never rfl (dif_range1 (by rfl) T.n_range (da_cons (d_op o_add (d_bi b_len (by rfl) T.n_len PySem.boot_len (da_cons (d_var 1) da_nil)) d_int) da_nil)) (sg_name (i := 8) sc_grows.nd rfl (by first | exact Or.inl rfl | exact Or.inr rfl)) (show DSs _ _ b_grows_1 from (ds_cons (ds_set (i := 9) sc_grows.nd rfl (by first | exact Or.inl rfl | exact Or.inr rfl) (d_ix o_ix (d_ix o_ix (d_var 3) (d_var 7)) (d_var 8)))
  (ds_cons (ds_if (PW.pt (dw_and (dt_cmp o_gt (d_var 7) d_int) (dw_and1 (dt_cmp o_gt (d_var 9) (d_op o_add (d_ix o_ix (d_ix o_ix (d_var 3) (d_op o_sub (d_var 7) d_int)) (d_var 8)) (d_var 4)))))) (ds_one (ds_ret d_bl)) ds_nil)
  (ds_cons (ds_if (PW.pt (dw_and (dt_cmp o_gt (d_var 8) d_int) (dw_and1 (dt_cmp o_gt (d_var 9) (d_op o_add (d_ix o_ix (d_ix o_ix (d_var 3) (d_var 7)) (d_op o_sub (d_var 8) d_int)) (d_var 5)))))) (ds_one (ds_ret d_bl)) ds_nil)
  (ds_one (ds_if (PW.pt (dw_and (dt_cmp o_gt (d_var 7) d_int) (dw_and1 (dt_cmp o_gt (d_var 8) d_int)))) (ds_cons (ds_set (i := 10) sc_grows.nd rfl (by first | exact Or.inl rfl | exact Or.inr rfl) (d_if (dt_cmp (o_eq hr.units) (d_ix o_ix (d_var 0) (d_op o_sub (d_var 7) d_int)) (d_ix o_ix (d_var 1) (d_op o_sub (d_var 8) d_int))) d_int (d_var 6)))
  (ds_one (ds_if (dt_cmp o_gt (d_var 9) (d_op o_add (d_ix o_ix (d_ix o_ix (d_var 3) (d_op o_sub (d_var 7) d_int)) (d_op o_sub (d_var 8) d_int)) (d_var 10))) (ds_one (ds_ret d_bl)) ds_nil))) ds_nil))))))))))
  (ds_one (ds_ret d_bl))))))
/-! is_table -/
theorem sc_is_table : FnScope ["table", "high", "wide", "row", "each"] ["table", "high", "wide"] (defScope (topS 12)) := ⟨rfl, rfl, rfl, by decide +kernel, rfl, by decide +kernel, by decide +kernel⟩
def c_is_table_1 : FE := (eLc (iSeq (eVar 3)) [4] (gN 4) bYes (eNot (eFn (fun ds => if ds.length = 1 then F_is_integer ds else M.no) (eAs (eVar 4) eAs0))))
def b_is_table_2 : FS := (sIf (bOr (bNot (bTr (e1 (isiD "tuple") (eVar 3)))) (bOr (bOf (e2 dNe (eCall bLen (eAs (eVar 3) eAs0)) (eVar 2))) (bTr (eCall bAny (eAs c_is_table_1 eAs0))))) (sRet (eC (.bl false))) sNil)
def g_is_table : FS := (sSeq (sIf (bOr (bNot (bTr (e1 (isiD "tuple") (eVar 0)))) (bOf (e2 dNe (eCall bLen (eAs (eVar 0) eAs0)) (eVar 1)))) (sRet (eC (.bl false))) sNil)
  (sSeq (sFor (iSeqT (eVar 0)) (gN 3) b_is_table_2)
  (sRet (eC (.bl true)))))
def F_is_table : List D → M D := run 5 g_is_table
theorem ok_is_table (T : Tx K mg) : FnOk P w K mg base CX0 2 T.f_is_table T.fd_is_table ["table", "high", "wide"] (spD 3 F_is_table) :=
  fn_ok (N := ["table", "high", "wide", "row", "each"]) T.F_is_table sc_is_table (by decide) (fun cdv A outer s H E hr => (show DSs _ _ g_is_table from (ds_cons (ds_if (PW.pt (dw_or (dt_not (dt_tr (d_isi (by rfl) T.n_isinstance (by rfl) T.n_tuple PyProof.Rows.boot_tuple (d_var 0)))) (dw_or1 (dt_cmp (o_ne hr.units) (d_bi b_len (by rfl) T.n_len PySem.boot_len (da_cons (d_var 0) da_nil)) (d_var 1))))) (ds_one (ds_ret d_bl)) ds_nil)
  (ds_cons (ds_for PassesOwn.never rfl (dif_seq (d_var 0)) (sg_name (i := 3) sc_is_table.nd rfl (by first | exact Or.inl rfl | exact Or.inr rfl)) (show DSs _ _ b_is_table_2 from (ds_one (ds_if (PW.pt (dw_or (dt_not (dt_tr (d_isi (by rfl) T.n_isinstance (by rfl) T.n_tuple PyProof.Rows.boot_tuple (d_var 3)))) (dw_or (dt_cmp (o_ne hr.units) (d_bi b_len (by rfl) T.n_len PySem.boot_len (da_cons (d_var 3) da_nil)) (d_var 2)) (dw_or1 (dt_tr (d_bi (b_any rfl) (by rfl) T.n_any boot_any (da_cons (d_lc (own := [("each", 4)]) rfl sc_is_table.nd (di_seq (d_var 3)) (blkOk_by (by kernel_rfl)) (fun _ _ _ _ _ => (dg_name (i := 4) sc_is_table.nd rfl (by first | exact Or.inl rfl | exact Or.inr rfl))) (fun _ _ _ _ _ => dts_nil) (fun _ _ _ _ _ => (d_not (d_fn (n := 1) ((ok_is_integer T).mono (by decide)) hr rfl T.g_is_integer T.F_is_integer.kp T.b_is_integer pass0 (da_cons (d_var 4) da_nil))))) da_nil))))))) (ds_one (ds_ret d_bl)) ds_nil))))
  (ds_one (ds_ret d_bl))))))
/-! takes_edit -/
theorem sc_takes_edit : FnScope ["one", "other", "costs", "paper", "table", "word"] ["one", "other", "costs", "paper"] (defScope (topS 11)) := ⟨rfl, rfl, rfl, by decide +kernel, rfl, by decide +kernel, by decide +kernel⟩
def c_takes_edit_1 : FE := (eLc (iSeq (e2 dIx (eVar 3) (eC (.int 1)))) [5] (gN 5) bYes (eNot (e1 (isiD "str") (eVar 5))))
def g_takes_edit : FS := (sSeq (sExp (eFn (fun ds => if ds.length = 3 then F_check_words ds else M.no) (eAs (eVar 0) (eAs (eVar 1) (eAs (eVar 2) eAs0)))))
  (sSeq (sIf (bOr (bNot (bTr (e1 (isiD "tuple") (eVar 3)))) (bOr (bOf (e2 dNe (eCall bLen (eAs (eVar 3) eAs0)) (eC (.int 3)))) (bOr (bNot (bTr (eFn (fun ds => if ds.length = 1 then F_is_integer ds else M.no) (eAs (e2 dIx (eVar 3) (eC (.int 0))) eAs0)))) (bNot (bTr (e1 (isiD "tuple") (e2 dIx (eVar 3) (eC (.int 1))))))))) (sRet (eC (.bl false))) sNil)
  (sSeq (sIf (bOr (bTr (eCall bAny (eAs c_takes_edit_1 eAs0))) (bOf (e2 dNe (eFn (fun ds => if ds.length = 4 then F_script_cost ds else M.no) (eAs (eVar 0) (eAs (eVar 1) (eAs (eVar 2) (eAs (e2 dIx (eVar 3) (eC (.int 1))) eAs0))))) (e2 dIx (eVar 3) (eC (.int 0)))))) (sRet (eC (.bl false))) sNil)
  (sSeq (sSet 4 (e2 dIx (eVar 3) (eC (.int 2))))
  (sSeq (sIf (bOr (bNot (bTr (eFn (fun ds => if ds.length = 3 then F_is_table ds else M.no) (eAs (eVar 4) (eAs (e2 dAdd (eCall bLen (eAs (eVar 0) eAs0)) (eC (.int 1))) (eAs (e2 dAdd (eCall bLen (eAs (eVar 1) eAs0)) (eC (.int 1))) eAs0)))))) (bOr (bOf (e2 dNe (e2 dIx (e2 dIx (eVar 4) (eC (.int 0))) (eC (.int 0))) (eC (.int 0)))) (bOf (e2 dNe (e2 dIx (e2 dIx (eVar 4) (e1 dNeg (eC (.int 1)))) (e1 dNeg (eC (.int 1)))) (e2 dIx (eVar 3) (eC (.int 0))))))) (sRet (eC (.bl false))) sNil)
  (sRet (eFn (fun ds => if ds.length = 4 then F_grows ds else M.no) (eAs (eVar 0) (eAs (eVar 1) (eAs (eVar 2) (eAs (eVar 4) eAs0)))))))))))
def F_takes_edit : List D → M D := run 6 g_takes_edit
theorem ok_takes_edit (T : Tx K mg) : FnOk P w K mg base CX0 3 T.f_takes_edit T.fd_takes_edit ["one", "other", "costs", "paper"] (spD 4 F_takes_edit) :=
  fn_ok (N := ["one", "other", "costs", "paper", "table", "word"]) T.F_takes_edit sc_takes_edit (by decide) (fun cdv A outer s H E hr => (show DSs _ _ g_takes_edit from (ds_cons (ds_exp (d_fn (n := 3) ((ok_check_words T).mono (by decide)) hr rfl T.g_check_words T.F_check_words.kp T.b_check_words pass0 (da_cons (d_var 0) (da_cons (d_var 1) (da_cons (d_var 2) da_nil)))))
  (ds_cons (ds_if (PW.pt (dw_or (dt_not (dt_tr (d_isi (by rfl) T.n_isinstance (by rfl) T.n_tuple PyProof.Rows.boot_tuple (d_var 3)))) (dw_or (dt_cmp (o_ne hr.units) (d_bi b_len (by rfl) T.n_len PySem.boot_len (da_cons (d_var 3) da_nil)) d_int) (dw_or (dt_not (dt_tr (d_fn (n := 1) ((ok_is_integer T).mono (by decide)) hr rfl T.g_is_integer T.F_is_integer.kp T.b_is_integer pass0 (da_cons (d_ix o_ix (d_var 3) d_int) da_nil)))) (dw_or1 (dt_not (dt_tr (d_isi (by rfl) T.n_isinstance (by rfl) T.n_tuple PyProof.Rows.boot_tuple (d_ix o_ix (d_var 3) d_int))))))))) (ds_one (ds_ret d_bl)) ds_nil)
  (ds_cons (ds_if (PW.pt (dw_or (dt_tr (d_bi (b_any rfl) (by rfl) T.n_any boot_any (da_cons (d_lc (own := [("word", 5)]) rfl sc_takes_edit.nd (di_seq (d_ix o_ix (d_var 3) d_int)) (blkOk_by (by kernel_rfl)) (fun _ _ _ _ _ => (dg_name (i := 5) sc_takes_edit.nd rfl (by first | exact Or.inl rfl | exact Or.inr rfl))) (fun _ _ _ _ _ => dts_nil) (fun _ _ _ _ _ => (d_not (d_isi (by rfl) T.n_isinstance (by rfl) T.n_str (by decide +kernel) (d_var 5))))) da_nil))) (dw_or1 (dt_cmp (o_ne hr.units) (d_fn (n := 4) ((ok_script_cost T).mono (by decide)) hr rfl T.g_script_cost T.F_script_cost.kp T.b_script_cost pass0 (da_cons (d_var 0) (da_cons (d_var 1) (da_cons (d_var 2) (da_cons (d_ix o_ix (d_var 3) d_int) da_nil))))) (d_ix o_ix (d_var 3) d_int))))) (ds_one (ds_ret d_bl)) ds_nil)
  (ds_cons (ds_set (i := 4) sc_takes_edit.nd rfl (by first | exact Or.inl rfl | exact Or.inr rfl) (d_ix o_ix (d_var 3) d_int))
  (ds_cons (ds_if (PW.pt (dw_or (dt_not (dt_tr (d_fn (n := 3) ((ok_is_table T).mono (by decide)) hr rfl T.g_is_table T.F_is_table.kp T.b_is_table pass0 (da_cons (d_var 4) (da_cons (d_op o_add (d_bi b_len (by rfl) T.n_len PySem.boot_len (da_cons (d_var 0) da_nil)) d_int) (da_cons (d_op o_add (d_bi b_len (by rfl) T.n_len PySem.boot_len (da_cons (d_var 1) da_nil)) d_int) da_nil)))))) (dw_or (dt_cmp (o_ne hr.units) (d_ix o_ix (d_ix o_ix (d_var 4) d_int) d_int) d_int) (dw_or1 (dt_cmp (o_ne hr.units) (d_ix o_ix (d_ix o_ix (d_var 4) (d_un o_neg d_int)) (d_un o_neg d_int)) (d_ix o_ix (d_var 3) d_int)))))) (ds_one (ds_ret d_bl)) ds_nil)
  (ds_one (ds_ret (d_fn (n := 4) ((ok_grows T).mono (by decide)) hr rfl T.g_grows T.F_grows.kp T.b_grows pass0 (da_cons (d_var 0) (da_cons (d_var 1) (da_cons (d_var 2) (da_cons (d_var 4) da_nil))))))))))))))
/-! common -/
theorem sc_common : FnScope ["one", "other", "cost"] ["one", "other"] (defScope (topS 14)) := ⟨rfl, rfl, rfl, by decide +kernel, rfl, by decide +kernel, by decide +kernel⟩
def g_common : FS := (sSeq (sSet 2 (e2 dIx (e2 dIx (eFn (fun ds => if ds.length = 3 then F_edit_table ds else M.no) (eAs (eVar 0) (eAs (eVar 1) (eAs (eTup (eAs (eC (.int 1)) (eAs (eC (.int 1)) (eAs (eC (.int 2)) eAs0)))) eAs0)))) (e1 dNeg (eC (.int 1)))) (e1 dNeg (eC (.int 1)))))
  (sRet (e2 dDiv (e2 dSub (e2 dAdd (eCall bLen (eAs (eVar 0) eAs0)) (eCall bLen (eAs (eVar 1) eAs0))) (eVar 2)) (eC (.int 2)))))
def F_common : List D → M D := run 3 g_common
theorem ok_common (T : Tx K mg) : FnOk P w K mg base CX0 4 T.f_common T.fd_common ["one", "other"] (spD 2 F_common) :=
  fn_ok (N := ["one", "other", "cost"]) T.F_common sc_common (by decide) (fun cdv A outer s H E hr => (show DSs _ _ g_common from (ds_cons (ds_set (i := 2) sc_common.nd rfl (by first | exact Or.inl rfl | exact Or.inr rfl) (d_ix o_ix (d_ix o_ix (d_fn (n := 3) ((ok_edit_table T).mono (by decide)) hr rfl T.g_edit_table T.F_edit_table.kp T.b_edit_table pass0 (da_cons (d_var 0) (da_cons (d_var 1) (da_cons (d_tup (da_cons d_int (da_cons d_int (da_cons d_int da_nil)))) da_nil)))) (d_un o_neg d_int)) (d_un o_neg d_int)))
  (ds_one (ds_ret (d_op o_div (d_op o_sub (d_op o_add (d_bi b_len (by rfl) T.n_len PySem.boot_len (da_cons (d_var 0) da_nil)) (d_bi b_len (by rfl) T.n_len PySem.boot_len (da_cons (d_var 1) da_nil))) (d_var 2)) d_int))))))
theorem sc__law_take : FnScope ["d", "many", "small", "digit"] ["d", "many"] (defScope (topS 17)) := ⟨rfl, rfl, rfl, by decide +kernel, rfl, by decide +kernel, by decide +kernel⟩
theorem ok__law_take (T : Tx K mg) : FnOk P w K mg base CX0 1 T.f__law_take T.fd__law_take ["d", "many"] (spD 2 F__law_take) := by
  refine T.F__law_take.ok sc__law_take (fun vs H Q E ⟨S, ds, L, st, d, st', r, hl, _⟩ => r.len.trans hl) (fun cdv A outer s H vs Q E hr h => ?_)
  obtain ⟨S, ds, L, st, d, st', r, hl, so, e, q⟩ := h
  match ds, hl with
  | [x, y], _ =>
  cases x with
  | src =>
    cases y with
    | int m =>
      obtain ⟨v, u, L1, L2', rfl, r1, r2⟩ := r.i2
      cases r1
      obtain ⟨rfl, rfl⟩ := r2.iint
      have e : (if 0 < m ∧ m ≤ 1000000 then some (D.int (take st m).1, (take st m).2) else none) = some (d, st') := e
      by_cases hm : 0 < m ∧ m ≤ 1000000
      · rw [if_pos hm] at e
        have e' := Option.some.inj e
        have ed : D.int (take st m).1 = d := congrArg Prod.fst e'
        have es : (take st m).2 = st' := congrArg Prod.snd e'
        clear e e'
        subst ed es
        have sl := sc__law_take.nd
        refine ⟨_, pss_cons (ps_if (PW.pt (pw_and (pt_cmpR op_eq (pe_ix ix_list (pv 0) pe_int (fun _ _ => rfl)) pe_int (nomark _)) (pw_and1 (pt_cmpR op_lt (pe_ix ix_list (pv 0) pe_int (fun _ _ => rfl)) (pe_callB call_len_seq (by rfl) T.n_len PySem.boot_len (pa_cons (pe_ix ix_list (pv 0) pe_int (fun _ _ => rfl)) pa_nil)) (nomark _)))))
            (pss_cons (ps_asg (pe_callB call_abs (by rfl) T.n_abs boot_abs (pa_cons (pe_callTy call_int1 (by rfl) T.n_int PyProof.Rows.boot_int (pa_cons (pe_ix ix_list (pe_ix ix_list (pv 0) pe_int (fun _ _ => rfl)) (pe_ix ix_list (pv 0) pe_int (fun _ _ => rfl)) (fun _ _ => rfl)) pa_nil)) pa_nil)) (pg_sub (pv 0) pe_int set_list))
            (pss_cons (ps_asg (pe_op op_add (pe_ix ix_list (pv 0) pe_int (fun _ _ => rfl)) pe_int) (pg_sub (pv 0) pe_int set_list))
            (pss_one (ps_if (pt_cmpR op_lt (pe_ix ix_list (pv 0) pe_int (fun _ _ => rfl)) (pe_op op_pow pe_int pe_int) (nomark _))
              (pss_cons (ps_set (i := 2) sl rfl (Or.inl rfl) (pe_callTy call_int1 (by rfl) T.n_int PyProof.Rows.boot_int (pa_cons (pe_ix ix_list (pv 0) pe_int (fun _ _ => rfl)) pa_nil)))
              (pss_cons (ps_asg pe_int (pg_sub (pv 0) pe_int set_list))
              (pss_one (ps_ret (pe_op op_mod (pv 2) (pv 1))))))
              pss_nil)))) pss_nil)
          (pss_cons (ps_if (pt_cmpR op_gt (pe_ix ix_list (pv 0) pe_int (fun _ _ => rfl)) pe_int (nomark _))
            (pss_cons (ps_set (i := 3) sl rfl (Or.inl rfl) (pe_op op_mod (pe_callTy call_int1 (by rfl) T.n_int PyProof.Rows.boot_int (pa_cons (pe_ix ix_list (pv 0) pe_int (fun _ _ => rfl)) pa_nil)) (pv 1)))
            (pss_cons (ps_asg (pe_op op_fdivW (pe_callTy call_int1 (by rfl) T.n_int PyProof.Rows.boot_int (pa_cons (pe_ix ix_list (pv 0) pe_int (fun _ _ => rfl)) pa_nil)) (pv 1)) (pg_sub (pv 0) pe_int set_list))
            (pss_one (ps_ret (pv 3))))) pss_nil)
          (pss_cons (ps_asg (pe_op op_mod (pe_callTy call_int1 (by rfl) T.n_int PyProof.Rows.boot_int (pa_cons (pe_op op_add (pe_op op_mul (pe_ix ix_list (pv 0) pe_int (fun _ _ => rfl)) pe_int) pe_int) pa_nil)) pe_int) (pg_sub (pv 0) pe_int set_list))
          (pss_one (ps_ret (pe_op op_mod (pe_callTy call_int1 (by rfl) T.n_int PyProof.Rows.boot_int (pa_cons (pe_op op_fdiv (pe_ix ix_list (pv 0) pe_int (fun _ _ => rfl)) pe_int) pa_nil)) (pv 1)))))), ?_⟩
        exact take_reads so hm q
      · rw [if_neg hm] at e; cases e
    | _ => cases e
  | _ => cases y <;> cases e

/-! _law_least -/
theorem sc__law_least : FnScope ["one", "other", "costs"] ["one", "other", "costs"] (defScope (topS 18)) := ⟨rfl, rfl, rfl, by decide +kernel, rfl, by decide +kernel, by decide +kernel⟩
def g__law_least : FS := (sRet (e2 dIx (e2 dIx (eFn (fun ds => if ds.length = 3 then F_edit_table ds else M.no) (eAs (eVar 0) (eAs (eVar 1) (eAs (eVar 2) eAs0)))) (e1 dNeg (eC (.int 1)))) (e1 dNeg (eC (.int 1)))))
def F__law_least : List D → M D := run 3 g__law_least
theorem ok__law_least (T : Tx K mg) : FnOk P w K mg base CX0 4 T.f__law_least T.fd__law_least ["one", "other", "costs"] (spD 3 F__law_least) :=
  fn_ok (N := ["one", "other", "costs"]) T.F__law_least sc__law_least (by decide) (fun cdv A outer s H E hr => (show DSs _ _ g__law_least from (ds_one (ds_ret (d_ix o_ix (d_ix o_ix (d_fn (n := 3) ((ok_edit_table T).mono (by decide)) hr rfl T.g_edit_table T.F_edit_table.kp T.b_edit_table pass0 (da_cons (d_var 0) (da_cons (d_var 1) (da_cons (d_var 2) da_nil)))) (d_un o_neg d_int)) (d_un o_neg d_int))))))
/-! law -/
theorem sc_law : FnScope ["script", "d", "words", "one", "other", "third", "fourth", "costs", "back", "low", "cost", "script_of", "table", "kinds", "turned", "other_table", "dear", "best", "some", "x", "k", "word"] ["script"] (defScope (topS 19)) := ⟨rfl, rfl, rfl, by decide +kernel, rfl, by decide +kernel, by decide +kernel⟩
def c_law_1 : FE := (eLc (iOf rg1 (eAs (eFn (fun ds => if ds.length = 2 then F__law_take ds else M.no) (eAs (eVar 1) (eAs (eC (.int 5)) eAs0))) eAs0)) [20] (gN 20) bYes (eFn (fun ds => if ds.length = 2 then F__law_take ds else M.no) (eAs (eVar 1) (eAs (eC (.int 3)) eAs0))))
def c_law_2 : FE := (eLc (iOf rg1 (eAs (eC (.int 4)) eAs0)) [19] (gN 19) bYes (eLf (eCall bTup (eAs c_law_1 eAs0))))
def c_law_3 : FE := (eLc (iSeq (eLst (eAs (eC (.str "keep")) (eAs (eC (.str "change")) (eAs (eC (.str "drop")) (eAs (eC (.str "add")) eAs0)))))) [21] (gN 21) bYes (eLf (e2 mCount (eVar 11) (eVar 21))))
def c_law_4 : FE := (eLc (iSeq (eVar 11)) [21] (gN 21) bYes (e2 dGet (eVar 14) (eVar 21)))
def c_law_5 : FE := (eLc (iOf rg1 (eAs (eCall bLen (eAs (eVar 3) eAs0)) eAs0)) [20] (gN 20) (bOf (e2 dEq (eFn (fun ds => if ds.length = 2 then F__law_take ds else M.no) (eAs (eVar 1) (eAs (eC (.int 2)) eAs0))) (eC (.int 0)))) (e2 dIx (eVar 3) (eVar 20)))
def g_law : FS := (sSeq (sOwn 2 c_law_2)
  (sSeq (sTl (eVar 2) 4 (gsC (gN 3) (gsC (gN 4) (gsC (gN 5) (gsC (gN 6) gs0)))))
  (sSeq (sSet 7 (eTup (eAs (e2 dAdd (eC (.int 1)) (eFn (fun ds => if ds.length = 2 then F__law_take ds else M.no) (eAs (eVar 1) (eAs (eC (.int 5)) eAs0)))) (eAs (e2 dAdd (eC (.int 1)) (eFn (fun ds => if ds.length = 2 then F__law_take ds else M.no) (eAs (eVar 1) (eAs (eC (.int 5)) eAs0)))) (eAs (e2 dAdd (eC (.int 1)) (eFn (fun ds => if ds.length = 2 then F__law_take ds else M.no) (eAs (eVar 1) (eAs (eC (.int 5)) eAs0)))) eAs0)))))
  (sSeq (sSet 8 (eTup (eAs (e2 dIx (eVar 7) (eC (.int 1))) (eAs (e2 dIx (eVar 7) (eC (.int 0))) (eAs (e2 dIx (eVar 7) (eC (.int 2))) eAs0)))))
  (sSeq (sSet 9 (eFn (fun ds => if ds.length = 3 then F__law_least ds else M.no) (eAs (eVar 3) (eAs (eVar 4) (eAs (eVar 7) eAs0)))))
  (sSeq (sIf (bOr (bOf (e2 dNe (eFn (fun ds => if ds.length = 3 then F__law_least ds else M.no) (eAs (eRevT (eVar 3)) (eAs (eRevT (eVar 4)) (eAs (eVar 7) eAs0)))) (eVar 9))) (bOr (bOf (e2 dNe (eFn (fun ds => if ds.length = 3 then F__law_least ds else M.no) (eAs (eVar 4) (eAs (eVar 3) (eAs (eVar 8) eAs0)))) (eVar 9))) (bOf (e2 dNe (e2 dEq (eVar 9) (eC (.int 0))) (e2 dEq (eVar 3) (eVar 4)))))) (sRet (eC (.bl false))) sNil)
  (sSeq (sIf (bOf (e2 dGt (eFn (fun ds => if ds.length = 3 then F__law_least ds else M.no) (eAs (e2 dAdd (eVar 3) (eVar 5)) (eAs (e2 dAdd (eVar 4) (eVar 6)) (eAs (eVar 7) eAs0)))) (e2 dAdd (eVar 9) (eFn (fun ds => if ds.length = 3 then F__law_least ds else M.no) (eAs (eVar 5) (eAs (eVar 6) (eAs (eVar 7) eAs0))))))) (sRet (eC (.bl false))) sNil)
  (sSeq (sIf (bOf (e2 dGt (eFn (fun ds => if ds.length = 3 then F__law_least ds else M.no) (eAs (eVar 3) (eAs (eVar 4) (eAs (eVar 7) eAs0)))) (e2 dAdd (eFn (fun ds => if ds.length = 3 then F__law_least ds else M.no) (eAs (eVar 3) (eAs (eVar 5) (eAs (eVar 7) eAs0)))) (eFn (fun ds => if ds.length = 3 then F__law_least ds else M.no) (eAs (eVar 5) (eAs (eVar 4) (eAs (eVar 7) eAs0))))))) (sRet (eC (.bl false))) sNil)
  (sSeq (sIf (bOr (bOf (e2 dGt (eCall bAbs (eAs (e2 dSub (eFn (fun ds => if ds.length = 3 then F__law_least ds else M.no) (eAs (e2 dAdd (eVar 3) (eTup (eAs (eC (.int 1)) eAs0))) (eAs (eVar 4) (eAs (eVar 7) eAs0)))) (eVar 9)) eAs0)) (eCall bMax2 (eAs (e2 dIx (eVar 7) (eC (.int 0))) (eAs (e2 dIx (eVar 7) (eC (.int 1))) eAs0))))) (bOf (e2 dGt (eFn (fun ds => if ds.length = 3 then F__law_least ds else M.no) (eAs (e2 dAdd (eVar 5) (eVar 3)) (eAs (e2 dAdd (eVar 5) (eVar 4)) (eAs (eVar 7) eAs0)))) (eVar 9)))) (sRet (eC (.bl false))) sNil)
  (sSeq (sTg (eFn (fun ds => if ds.length = 3 then F_edit_paper ds else M.no) (eAs (eVar 3) (eAs (eVar 4) (eAs (eVar 7) eAs0)))) (gT 3 (gsC (gN 10) (gsC (gN 11) (gsC (gN 12) gs0)))))
  (sSeq (sOwn 13 c_law_3)
  (sSeq (sIf (bOr (bOf (e2 dNe (e2 dAdd (e2 dAdd (e2 dIx (eVar 13) (eC (.int 0))) (e2 dIx (eVar 13) (eC (.int 1)))) (e2 dIx (eVar 13) (eC (.int 2)))) (eCall bLen (eAs (eVar 3) eAs0)))) (bOr (bOf (e2 dNe (e2 dAdd (e2 dAdd (e2 dIx (eVar 13) (eC (.int 0))) (e2 dIx (eVar 13) (eC (.int 1)))) (e2 dIx (eVar 13) (eC (.int 3)))) (eCall bLen (eAs (eVar 4) eAs0)))) (bOf (e2 dNe (eVar 10) (e2 dAdd (e2 dAdd (e2 dMul (e2 dIx (eVar 13) (eC (.int 1))) (e2 dIx (eVar 7) (eC (.int 2)))) (e2 dMul (e2 dIx (eVar 13) (eC (.int 2))) (e2 dIx (eVar 7) (eC (.int 0))))) (e2 dMul (e2 dIx (eVar 13) (eC (.int 3))) (e2 dIx (eVar 7) (eC (.int 1))))))))) (sRet (eC (.bl false))) sNil)
  (sSeq (sSet 14 (eC (.dct [("keep", "keep"), ("change", "change"), ("drop", "add"), ("add", "drop")])))
  (sSeq (sSet 15 (eFn (fun ds => if ds.length = 3 then F_edit_table ds else M.no) (eAs (eVar 4) (eAs (eVar 3) (eAs (eVar 8) eAs0)))))
  (sSeq (sIf (bOf (e2 dIsN (eFn (fun ds => if ds.length = 4 then F_takes_edit ds else M.no) (eAs (eVar 4) (eAs (eVar 3) (eAs (eVar 8) (eAs (eTup (eAs (eVar 10) (eAs (eCall bTup (eAs c_law_4 eAs0)) (eAs (eVar 15) eAs0)))) eAs0))))) (eC (.bl true)))) (sRet (eC (.bl false))) sNil)
  (sSeq (sSet 16 (eTup (eAs (e2 dIx (eVar 7) (eC (.int 0))) (eAs (e2 dIx (eVar 7) (eC (.int 1))) (eAs (e2 dAdd (e2 dIx (eVar 7) (eC (.int 0))) (e2 dIx (eVar 7) (eC (.int 1)))) eAs0)))))
  (sSeq (sSet 17 (eFn (fun ds => if ds.length = 2 then F_common ds else M.no) (eAs (eVar 3) (eAs (eVar 4) eAs0))))
  (sSeq (sIf (bOf (e2 dNe (eFn (fun ds => if ds.length = 3 then F__law_least ds else M.no) (eAs (eVar 3) (eAs (eVar 4) (eAs (eVar 16) eAs0)))) (e2 dAdd (e2 dMul (e2 dSub (eCall bLen (eAs (eVar 3) eAs0)) (eVar 17)) (e2 dIx (eVar 7) (eC (.int 0)))) (e2 dMul (e2 dSub (eCall bLen (eAs (eVar 4) eAs0)) (eVar 17)) (e2 dIx (eVar 7) (eC (.int 1))))))) (sRet (eC (.bl false))) sNil)
  (sSeq (sSet 18 (eCall bTup (eAs c_law_5 eAs0)))
  (sRet (eAnd (e2 dLe (eFn (fun ds => if ds.length = 3 then F__law_least ds else M.no) (eAs (eVar 3) (eAs (eVar 18) (eAs (eVar 7) eAs0)))) (e2 dMul (e2 dSub (eCall bLen (eAs (eVar 3) eAs0)) (eCall bLen (eAs (eVar 18) eAs0))) (e2 dIx (eVar 7) (eC (.int 0))))) (eAnd (e2 dEq (eFn (fun ds => if ds.length = 2 then F_common ds else M.no) (eAs (eVar 3) (eAs (eVar 18) eAs0))) (eCall bLen (eAs (eVar 18) eAs0))) (eCh dEq dLe (eFn (fun ds => if ds.length = 2 then F_common ds else M.no) (eAs (eVar 3) (eAs (eVar 4) eAs0))) (eFn (fun ds => if ds.length = 2 then F_common ds else M.no) (eAs (eVar 4) (eAs (eVar 3) eAs0))) (eCall bMin2 (eAs (eCall bLen (eAs (eVar 3) eAs0)) (eAs (eCall bLen (eAs (eVar 4) eAs0)) eAs0))))))))))))))))))))))))))
theorem law_body (T : Tx K mg) {k : Nat} (hk : 4 ≤ k) (cdv : Value) (A : Around) (outer : List Env) (s : Shared) (H : Hp) (E : XK) {f : Addr} (hr0 : Room k (A.deeper (envOfC "law" (defScope (topS 19)) s.heap.objs.size f cdv))) :
    DSs (cxOf CX0 P w K mg base ["script", "d", "words", "one", "other", "third", "fourth", "costs", "back", "low", "cost", "script_of", "table", "kinds", "turned", "other_table", "dear", "best", "some", "x", "k", "word"] "law" (defScope (topS 19)) f cdv A outer s H E).nox ((defBody (topS 19)).drop 1) g_law := by
  have hr := hr0.mono hk
  exact (show DSs _ _ g_law from (ds_cons (ds_setLc (i := 2) (own := [("x", 19)]) rfl sc_law.nd rfl rfl (sw_true rfl rfl rfl (by kernel_rfl)) (dif (dif_range1 (by rfl) T.n_range (da_cons d_int da_nil))) (blkOk_by (by kernel_rfl)) (fun _ _ _ _ _ => (dg_name (i := 19) sc_law.nd rfl (by first | exact Or.inl rfl | exact Or.inr rfl))) (fun _ _ _ _ _ => dts_nil) (fun _ _ _ _ _ => (df_lf (d_ty b_tup (by rfl) T.n_tuple PyProof.Rows.boot_tuple (da_cons (d_lc (own := [("k", 20)]) rfl sc_law.nd (dif (dif_range1 (by rfl) T.n_range (da_cons (d_fn (n := 2) ((ok__law_take T).mono (by decide)) hr rfl T.g__law_take T.F__law_take.kp T.b__law_take pass0 (da_cons (d_var 1) (da_cons d_int da_nil))) da_nil))) (blkOk_by (by kernel_rfl)) (fun _ _ _ _ _ => (dg_name (i := 20) sc_law.nd rfl (by first | exact Or.inl rfl | exact Or.inr rfl))) (fun _ _ _ _ _ => dts_nil) (fun _ _ _ _ _ => (d_fn (n := 2) ((ok__law_take T).mono (by decide)) hr rfl T.g__law_take T.F__law_take.kp T.b__law_take pass0 (da_cons (d_var 1) (da_cons d_int da_nil))))) da_nil)))))
  (ds_cons (ds_asgL rfl (d_var 2) (sgs_cons (sg_name (i := 3) sc_law.nd rfl (by first | exact Or.inl rfl | exact Or.inr rfl)) (sgs_cons (sg_name (i := 4) sc_law.nd rfl (by first | exact Or.inl rfl | exact Or.inr rfl)) (sgs_cons (sg_name (i := 5) sc_law.nd rfl (by first | exact Or.inl rfl | exact Or.inr rfl)) (sgs_cons (sg_name (i := 6) sc_law.nd rfl (by first | exact Or.inl rfl | exact Or.inr rfl)) sgs_nil)))))
  (ds_cons (ds_set (i := 7) sc_law.nd rfl (by first | exact Or.inl rfl | exact Or.inr rfl) (d_tup (da_cons (d_op o_add d_int (d_fn (n := 2) ((ok__law_take T).mono (by decide)) hr rfl T.g__law_take T.F__law_take.kp T.b__law_take pass0 (da_cons (d_var 1) (da_cons d_int da_nil)))) (da_cons (d_op o_add d_int (d_fn (n := 2) ((ok__law_take T).mono (by decide)) hr rfl T.g__law_take T.F__law_take.kp T.b__law_take pass0 (da_cons (d_var 1) (da_cons d_int da_nil)))) (da_cons (d_op o_add d_int (d_fn (n := 2) ((ok__law_take T).mono (by decide)) hr rfl T.g__law_take T.F__law_take.kp T.b__law_take pass0 (da_cons (d_var 1) (da_cons d_int da_nil)))) da_nil)))))
  (ds_cons (ds_set (i := 8) sc_law.nd rfl (by first | exact Or.inl rfl | exact Or.inr rfl) (d_tup (da_cons (d_ix o_ix (d_var 7) d_int) (da_cons (d_ix o_ix (d_var 7) d_int) (da_cons (d_ix o_ix (d_var 7) d_int) da_nil)))))
  (ds_cons (ds_set (i := 9) sc_law.nd rfl (by first | exact Or.inl rfl | exact Or.inr rfl) (d_fn (n := 3) ((ok__law_least T).mono (by decide)) hr rfl T.g__law_least T.F__law_least.kp T.b__law_least pass0 (da_cons (d_var 3) (da_cons (d_var 4) (da_cons (d_var 7) da_nil)))))
  (ds_cons (ds_if (PW.pt (dw_or (dt_cmp (o_ne hr.units) (d_fn (n := 3) ((ok__law_least T).mono (by decide)) hr rfl T.g__law_least T.F__law_least.kp T.b__law_least pass0 (da_cons (d_revT (d_var 3)) (da_cons (d_revT (d_var 4)) (da_cons (d_var 7) da_nil)))) (d_var 9)) (dw_or (dt_cmp (o_ne hr.units) (d_fn (n := 3) ((ok__law_least T).mono (by decide)) hr rfl T.g__law_least T.F__law_least.kp T.b__law_least pass0 (da_cons (d_var 4) (da_cons (d_var 3) (da_cons (d_var 8) da_nil)))) (d_var 9)) (dw_or1 (dt_cmp (o_ne hr.units) (d_cmp (o_eq hr.units) (d_var 9) d_int) (d_cmp (o_eq hr.units) (d_var 3) (d_var 4))))))) (ds_one (ds_ret d_bl)) ds_nil)
  (ds_cons (ds_if (dt_cmp o_gt (d_fn (n := 3) ((ok__law_least T).mono (by decide)) hr rfl T.g__law_least T.F__law_least.kp T.b__law_least pass0 (da_cons (d_op o_add (d_var 3) (d_var 5)) (da_cons (d_op o_add (d_var 4) (d_var 6)) (da_cons (d_var 7) da_nil)))) (d_op o_add (d_var 9) (d_fn (n := 3) ((ok__law_least T).mono (by decide)) hr rfl T.g__law_least T.F__law_least.kp T.b__law_least pass0 (da_cons (d_var 5) (da_cons (d_var 6) (da_cons (d_var 7) da_nil)))))) (ds_one (ds_ret d_bl)) ds_nil)
  (ds_cons (ds_if (dt_cmp o_gt (d_fn (n := 3) ((ok__law_least T).mono (by decide)) hr rfl T.g__law_least T.F__law_least.kp T.b__law_least pass0 (da_cons (d_var 3) (da_cons (d_var 4) (da_cons (d_var 7) da_nil)))) (d_op o_add (d_fn (n := 3) ((ok__law_least T).mono (by decide)) hr rfl T.g__law_least T.F__law_least.kp T.b__law_least pass0 (da_cons (d_var 3) (da_cons (d_var 5) (da_cons (d_var 7) da_nil)))) (d_fn (n := 3) ((ok__law_least T).mono (by decide)) hr rfl T.g__law_least T.F__law_least.kp T.b__law_least pass0 (da_cons (d_var 5) (da_cons (d_var 4) (da_cons (d_var 7) da_nil)))))) (ds_one (ds_ret d_bl)) ds_nil)
  (ds_cons (ds_if (PW.pt (dw_or (dt_cmp o_gt (d_bi b_abs (by rfl) T.n_abs boot_abs (da_cons (d_op o_sub (d_fn (n := 3) ((ok__law_least T).mono (by decide)) hr rfl T.g__law_least T.F__law_least.kp T.b__law_least pass0 (da_cons (d_op o_add (d_var 3) (d_tup (da_cons d_int da_nil))) (da_cons (d_var 4) (da_cons (d_var 7) da_nil)))) (d_var 9)) da_nil)) (d_bi (b_max2 rfl) (by rfl) T.n_max boot_max (da_cons (d_ix o_ix (d_var 7) d_int) (da_cons (d_ix o_ix (d_var 7) d_int) da_nil)))) (dw_or1 (dt_cmp o_gt (d_fn (n := 3) ((ok__law_least T).mono (by decide)) hr rfl T.g__law_least T.F__law_least.kp T.b__law_least pass0 (da_cons (d_op o_add (d_var 5) (d_var 3)) (da_cons (d_op o_add (d_var 5) (d_var 4)) (da_cons (d_var 7) da_nil)))) (d_var 9))))) (ds_one (ds_ret d_bl)) ds_nil)
  (ds_cons (ds_asg (d_fn (n := 3) ((ok_edit_paper T).mono (by decide)) hr rfl T.g_edit_paper T.F_edit_paper.kp T.b_edit_paper pass0 (da_cons (d_var 3) (da_cons (d_var 4) (da_cons (d_var 7) da_nil)))) (sg_tup rfl (sgs_cons (sg_name (i := 10) sc_law.nd rfl (by first | exact Or.inl rfl | exact Or.inr rfl)) (sgs_cons (sg_name (i := 11) sc_law.nd rfl (by first | exact Or.inl rfl | exact Or.inr rfl)) (sgs_cons (sg_name (i := 12) sc_law.nd rfl (by first | exact Or.inl rfl | exact Or.inr rfl)) sgs_nil)))))
  (ds_cons (ds_setLc (i := 13) (own := [("word", 21)]) rfl sc_law.nd rfl rfl (sw_true rfl rfl rfl (by kernel_rfl)) (di_seq (d_lst (da_cons d_str (da_cons d_str (da_cons d_str (da_cons d_str da_nil)))))) (blkOk_by (by kernel_rfl)) (fun _ _ _ _ _ => (dg_name (i := 21) sc_law.nd rfl (by first | exact Or.inl rfl | exact Or.inr rfl))) (fun _ _ _ _ _ => dts_nil) (fun _ _ _ _ _ => (df_lf (d_count hr.units (d_var 11) (d_var 21)))))
  (ds_cons (ds_if (PW.pt (dw_or (dt_cmp (o_ne hr.units) (d_op o_add (d_op o_add (d_ix o_ix (d_var 13) d_int) (d_ix o_ix (d_var 13) d_int)) (d_ix o_ix (d_var 13) d_int)) (d_bi b_len (by rfl) T.n_len PySem.boot_len (da_cons (d_var 3) da_nil))) (dw_or (dt_cmp (o_ne hr.units) (d_op o_add (d_op o_add (d_ix o_ix (d_var 13) d_int) (d_ix o_ix (d_var 13) d_int)) (d_ix o_ix (d_var 13) d_int)) (d_bi b_len (by rfl) T.n_len PySem.boot_len (da_cons (d_var 4) da_nil))) (dw_or1 (dt_cmp (o_ne hr.units) (d_var 10) (d_op o_add (d_op o_add (d_op o_mul (d_ix o_ix (d_var 13) d_int) (d_ix o_ix (d_var 7) d_int)) (d_op o_mul (d_ix o_ix (d_var 13) d_int) (d_ix o_ix (d_var 7) d_int))) (d_op o_mul (d_ix o_ix (d_var 13) d_int) (d_ix o_ix (d_var 7) d_int)))))))) (ds_one (ds_ret d_bl)) ds_nil)
  (ds_cons (ds_set (i := 14) sc_law.nd rfl (by first | exact Or.inl rfl | exact Or.inr rfl) (d_dct [("keep", "keep"), ("change", "change"), ("drop", "add"), ("add", "drop")] (pps_cons pe_str pe_str (pps_cons pe_str pe_str (pps_cons pe_str pe_str (pps_cons pe_str pe_str pps_nil))))))
  (ds_cons (ds_set (i := 15) sc_law.nd rfl (by first | exact Or.inl rfl | exact Or.inr rfl) (d_fn (n := 3) ((ok_edit_table T).mono (by decide)) hr rfl T.g_edit_table T.F_edit_table.kp T.b_edit_table pass0 (da_cons (d_var 4) (da_cons (d_var 3) (da_cons (d_var 8) da_nil)))))
  (ds_cons (ds_if (dt_cmp o_isN (d_fn (n := 4) ((ok_takes_edit T).mono (by decide)) hr rfl T.g_takes_edit T.F_takes_edit.kp T.b_takes_edit pass0 (da_cons (d_var 4) (da_cons (d_var 3) (da_cons (d_var 8) (da_cons (d_tup (da_cons (d_var 10) (da_cons (d_ty b_tup (by rfl) T.n_tuple PyProof.Rows.boot_tuple (da_cons (d_lc (own := [("word", 21)]) rfl sc_law.nd (di_seq (d_var 11)) (blkOk_by (by kernel_rfl)) (fun _ _ _ _ _ => (dg_name (i := 21) sc_law.nd rfl (by first | exact Or.inl rfl | exact Or.inr rfl))) (fun _ _ _ _ _ => dts_nil) (fun _ _ _ _ _ => (d_get (hu_of hr) (d_var 14) (d_var 21)))) da_nil)) (da_cons (d_var 15) da_nil)))) da_nil))))) d_bl) (ds_one (ds_ret d_bl)) ds_nil)
  (ds_cons (ds_set (i := 16) sc_law.nd rfl (by first | exact Or.inl rfl | exact Or.inr rfl) (d_tup (da_cons (d_ix o_ix (d_var 7) d_int) (da_cons (d_ix o_ix (d_var 7) d_int) (da_cons (d_op o_add (d_ix o_ix (d_var 7) d_int) (d_ix o_ix (d_var 7) d_int)) da_nil)))))
  (ds_cons (ds_set (i := 17) sc_law.nd rfl (by first | exact Or.inl rfl | exact Or.inr rfl) (d_fn (n := 2) ((ok_common T).mono (by decide)) hr rfl T.g_common T.F_common.kp T.b_common pass0 (da_cons (d_var 3) (da_cons (d_var 4) da_nil))))
  (ds_cons (ds_if (dt_cmp (o_ne hr.units) (d_fn (n := 3) ((ok__law_least T).mono (by decide)) hr rfl T.g__law_least T.F__law_least.kp T.b__law_least pass0 (da_cons (d_var 3) (da_cons (d_var 4) (da_cons (d_var 16) da_nil)))) (d_op o_add (d_op o_mul (d_op o_sub (d_bi b_len (by rfl) T.n_len PySem.boot_len (da_cons (d_var 3) da_nil)) (d_var 17)) (d_ix o_ix (d_var 7) d_int)) (d_op o_mul (d_op o_sub (d_bi b_len (by rfl) T.n_len PySem.boot_len (da_cons (d_var 4) da_nil)) (d_var 17)) (d_ix o_ix (d_var 7) d_int)))) (ds_one (ds_ret d_bl)) ds_nil)
  (ds_cons (ds_set (i := 18) sc_law.nd rfl (by first | exact Or.inl rfl | exact Or.inr rfl) (d_ty b_tup (by rfl) T.n_tuple PyProof.Rows.boot_tuple (da_cons (d_lc (own := [("k", 20)]) rfl sc_law.nd (dif (dif_range1 (by rfl) T.n_range (da_cons (d_bi b_len (by rfl) T.n_len PySem.boot_len (da_cons (d_var 3) da_nil)) da_nil))) (blkOk_by (by kernel_rfl)) (fun _ _ _ _ _ => (dg_name (i := 20) sc_law.nd rfl (by first | exact Or.inl rfl | exact Or.inr rfl))) (fun _ _ _ _ _ => (dts_one (dt_cmp (o_eq hr.units) (d_fn (n := 2) ((ok__law_take T).mono (by decide)) hr rfl T.g__law_take T.F__law_take.kp T.b__law_take pass0 (da_cons (d_var 1) (da_cons d_int da_nil))) d_int))) (fun _ _ _ _ _ => (d_ix o_ix (d_var 3) (d_var 20)))) da_nil)))
  (ds_one (ds_ret (d_and (d_cmp o_le (d_fn (n := 3) ((ok__law_least T).mono (by decide)) hr rfl T.g__law_least T.F__law_least.kp T.b__law_least pass0 (da_cons (d_var 3) (da_cons (d_var 18) (da_cons (d_var 7) da_nil)))) (d_op o_mul (d_op o_sub (d_bi b_len (by rfl) T.n_len PySem.boot_len (da_cons (d_var 3) da_nil)) (d_bi b_len (by rfl) T.n_len PySem.boot_len (da_cons (d_var 18) da_nil))) (d_ix o_ix (d_var 7) d_int))) (d_and (d_cmp (o_eq hr.units) (d_fn (n := 2) ((ok_common T).mono (by decide)) hr rfl T.g_common T.F_common.kp T.b_common pass0 (da_cons (d_var 3) (da_cons (d_var 18) da_nil))) (d_bi b_len (by rfl) T.n_len PySem.boot_len (da_cons (d_var 18) da_nil))) (d_one (d_chain (o_eq hr.units) o_le (d_fn (n := 2) ((ok_common T).mono (by decide)) hr rfl T.g_common T.F_common.kp T.b_common pass0 (da_cons (d_var 3) (da_cons (d_var 4) da_nil))) (d_fn (n := 2) ((ok_common T).mono (by decide)) hr rfl T.g_common T.F_common.kp T.b_common pass0 (da_cons (d_var 4) (da_cons (d_var 3) da_nil))) (d_bi (b_min2 rfl) (by rfl) T.n_min boot_min (da_cons (d_bi b_len (by rfl) T.n_len PySem.boot_len (da_cons (d_var 3) da_nil)) (da_cons (d_bi b_len (by rfl) T.n_len PySem.boot_len (da_cons (d_var 4) da_nil)) da_nil)))))))))))))))))))))))))))))
end
section
variable {P : Program} {w : World} {K : PySem.W.Frag} {mg : Str → Option Value} {base : Heap}
theorem sc__law_begin : FnScope ["script", "seed", "cell"] ["script"] (defScope (topS 16)) := ⟨rfl, rfl, rfl, by decide +kernel, rfl, by decide +kernel, by decide +kernel⟩
theorem ok__law_begin (T : Tx K mg) : FnOk P w K mg base CX0 1 T.f__law_begin T.fd__law_begin ["script"] (spBegin K) := by
  refine T.F__law_begin.ok sc__law_begin (fun vs H Q E ⟨a, ns, e, _⟩ => by rw [e]; rfl) (fun cdv A outer s H vs Q E hr h => ?_)
  have sl := sc__law_begin.nd
  exact ⟨_, pss_cons (ps_set (i := 1) sl rfl (Or.inl rfl) pe_int)
    (pss_cons (ps_for PassesOwn.never rfl (pi_list (pv 0)) (pg_name (i := 2) sl rfl (Or.inl rfl)) (pss_one (ps_set (i := 1) sl rfl (Or.inl rfl)
      (pe_op op_mod (pe_op op_add (pe_op op_add (pe_op op_mul (pv 1) pe_int) (pe_op op_mod (pe_callTy call_int1 (by rfl) T.n_int PyProof.Rows.boot_int (pa_cons (pv 2) pa_nil)) pe_int)) pe_int) pe_int))))
    (pss_one (ps_ret (pe_lst (pa_cons (pe_callTy call_list_of (by rfl) T.n_list PyProof.Rows.boot_list (pa_cons (pv 0) pa_nil)) (pa_cons pe_int (pa_cons pe_int (pa_cons (pv 1) pa_nil)))))))), begin_reads h⟩
theorem ok_law (T : Tx K mg) {f : Addr} {fd : FuncData} (F : Fun K "law" "law" (topS 19) f fd)
    (hg : ∀ st : Src, ∃ st', g_law (.no :: .rd .src :: List.replicate 20 .no) st = some (.rt (.bl true), st')) : FnOk P w K mg base CX0 5 f fd ["script"] (spLaw K) := by
  refine F.ok sc_law (fun vs H Q E ⟨a, ns, e, _⟩ => by rw [e]; rfl) (fun cdv A outer s H vs Q E hr h => ?_)
  obtain ⟨a, ns, rfl, hS, hl, q⟩ := h
  have G := (ok__law_begin (P := P) (w := w) (base := base) T).mono (show 1 ≤ 4 by decide)
  refine ⟨_, show PSs _ ((defBody (topS 19)).head (by decide +kernel) :: (defBody (topS 19)).drop 1) _ from pss_cons (ps_set (i := 1) sc_law.nd rfl (by first | exact Or.inl rfl | exact Or.inr rfl) (pe_call G hr rfl T.g__law_begin T.F__law_begin.kp T.b__law_begin .nil pass0 (pa_cons (pv 0) pa_nil))) (law_body T (Nat.le_refl 4) cdv A outer s H E hr), ?_⟩
  refine ⟨.ref a, rfl, a, ns, rfl, hS, hl, fun H' p q' seed hp hq hpq h1 h2 => ?_⟩
  exact law_reads (n := 20) hpq h1 h2 hg q
end
end K47
set_option linter.all false
/-! M47: least costs of edits: rows of steps that lead from one word to another (Al), the least cost (ed), a way of least cost (pth), common rows. Plain Lean. -/
namespace Ed

structure Co where
  dr : Int
  ad : Int
  ch : Int
structure Co.Ok (q : Co) : Prop where
  d : 0 < q.dr
  a : 0 < q.ad
  c : 0 < q.ch
def Co.back (q : Co) : Co := ⟨q.ad, q.dr, q.ch⟩
theorem Co.Ok.back {q : Co} (h : q.Ok) : q.back.Ok := ⟨h.a, h.d, h.c⟩

inductive Al (q : Co) : List Int → List Int → Int → Prop
  | nil : Al q [] [] 0
  | keep (x : Int) {a b : List Int} {c : Int} : Al q a b c → Al q (x :: a) (x :: b) c
  | chg (x y : Int) {a b : List Int} {c : Int} : Al q a b c → Al q (x :: a) (y :: b) (c + q.ch)
  | drop (x : Int) {a b : List Int} {c : Int} : Al q a b c → Al q (x :: a) b (c + q.dr)
  | add (y : Int) {a b : List Int} {c : Int} : Al q a b c → Al q a (y :: b) (c + q.ad)

theorem Al.cast {q : Co} {a b : List Int} {c c' : Int} (h : Al q a b c) (e : c = c') : Al q a b c' := e ▸ h
theorem Al.append {q : Co} {a b a' b' : List Int} {c c' : Int} (h : Al q a b c) (h' : Al q a' b' c') : Al q (a ++ a') (b ++ b') (c + c') := by
  induction h with
  | nil => exact h'.cast (by omega)
  | keep x _ ih => exact .keep x ih
  | chg x y _ ih => exact (Al.chg x y ih).cast (by omega)
  | drop x _ ih => exact (Al.drop x ih).cast (by omega)
  | add y _ ih => exact (Al.add y ih).cast (by omega)
theorem Al.rev {q : Co} {a b : List Int} {c : Int} (h : Al q a b c) : Al q a.reverse b.reverse c := by
  induction h with
  | nil => exact .nil
  | keep x _ ih => rw [List.reverse_cons, List.reverse_cons]; exact (ih.append (.keep x .nil)).cast (by omega)
  | chg x y _ ih => rw [List.reverse_cons, List.reverse_cons]; exact (ih.append (.chg x y .nil)).cast (by omega)
  | @drop x a b c _ ih =>
    have := (ih.append (.drop x .nil)).cast (c' := c + q.dr) (by omega)
    rw [List.append_nil] at this
    rw [List.reverse_cons]; exact this
  | @add y a b c _ ih =>
    have := (ih.append (.add y .nil)).cast (c' := c + q.ad) (by omega)
    rw [List.append_nil] at this
    rw [List.reverse_cons]; exact this
theorem Al.swap {q : Co} {a b : List Int} {c : Int} (h : Al q a b c) : Al q.back b a c := by
  induction h with
  | nil => exact .nil
  | keep x _ ih => exact .keep x ih
  | chg x y _ ih => exact .chg y x ih
  | drop x _ ih => exact .add x ih
  | add y _ ih => exact .drop y ih
theorem Al.refl (q : Co) : ∀ a : List Int, Al q a a 0
  | [] => .nil
  | x :: a => .keep x (Al.refl q a)
theorem Al.lo {q : Co} (hq : q.Ok) {a b : List Int} {c : Int} (h : Al q a b c) : 0 ≤ c ∧ (c = 0 → a = b) := by
  have hd := hq.d
  have ha := hq.a
  have hc := hq.c
  induction h with
  | nil => exact ⟨Int.le_refl _, fun _ => rfl⟩
  | keep x _ ih => exact ⟨ih.1, fun e => by rw [ih.2 e]⟩
  | chg x y _ ih => exact ⟨by omega, fun e => by omega⟩
  | drop x _ ih => exact ⟨by omega, fun e => by omega⟩
  | add y _ ih => exact ⟨by omega, fun e => by omega⟩
theorem Al.comp {q : Co} (hq : q.Ok) : ∀ (n : Nat) {a b d : List Int} {c c' : Int}, a.length + b.length + d.length ≤ n → Al q a b c → Al q b d c' → ∃ c2, c2 ≤ c + c' ∧ Al q a d c2 := by
  have hd := hq.d
  have ha := hq.a
  have hc := hq.c
  intro n
  induction n with
  | zero =>
    intro a b d c c' hl h1 h2
    cases h1 <;> cases h2 <;> simp_all
    exact ⟨0, by omega, .nil⟩
  | succ n ih =>
    intro a b d c c' hl h1 h2
    have addc : ∀ {a b d : List Int} {c c' : Int} (y : Int), a.length + b.length + (y :: d).length ≤ n + 1 → Al q a b c → Al q b d c' → ∃ c2, c2 ≤ c + (c' + q.ad) ∧ Al q a (y :: d) c2 := fun y hl h1 h2 => by
      obtain ⟨c2, l, h⟩ := ih (by simp at hl; omega) h1 h2
      exact ⟨c2 + q.ad, by omega, .add y h⟩
    cases h1 with
    | nil => exact ⟨c', by omega, h2⟩
    | drop x h1 =>
      obtain ⟨c2, l, h⟩ := ih (by simp at hl; omega) h1 h2
      exact ⟨c2 + q.dr, by omega, .drop x h⟩
    | keep x h1 =>
      cases h2 with
      | keep x h2 =>
        obtain ⟨c2, l, h⟩ := ih (by simp at hl; omega) h1 h2
        exact ⟨c2, by omega, .keep x h⟩
      | chg x y h2 =>
        obtain ⟨c2, l, h⟩ := ih (by simp at hl; omega) h1 h2
        exact ⟨c2 + q.ch, by omega, .chg x y h⟩
      | drop x h2 =>
        obtain ⟨c2, l, h⟩ := ih (by simp at hl; omega) h1 h2
        exact ⟨c2 + q.dr, by omega, .drop x h⟩
      | add y h2 => exact addc y hl (.keep x h1) h2
    | chg x y h1 =>
      cases h2 with
      | keep y h2 =>
        obtain ⟨c2, l, h⟩ := ih (by simp at hl; omega) h1 h2
        exact ⟨c2 + q.ch, by omega, .chg x y h⟩
      | chg y z h2 =>
        obtain ⟨c2, l, h⟩ := ih (by simp at hl; omega) h1 h2
        exact ⟨c2 + q.ch, by omega, .chg x z h⟩
      | drop y h2 =>
        obtain ⟨c2, l, h⟩ := ih (by simp at hl; omega) h1 h2
        exact ⟨c2 + q.dr, by omega, .drop x h⟩
      | add z h2 => exact addc z hl (.chg x y h1) h2
    | add y h1 =>
      cases h2 with
      | keep y h2 =>
        obtain ⟨c2, l, h⟩ := ih (by simp at hl; omega) h1 h2
        exact ⟨c2 + q.ad, by omega, .add y h⟩
      | chg y z h2 =>
        obtain ⟨c2, l, h⟩ := ih (by simp at hl; omega) h1 h2
        exact ⟨c2 + q.ad, by omega, .add z h⟩
      | drop y h2 =>
        obtain ⟨c2, l, h⟩ := ih (by simp at hl; omega) h1 h2
        exact ⟨c2, by omega, h⟩
      | add z h2 => exact addc z hl (.add y h1) h2

/-- the least of three, as the program takes it -/
def m3 (a b c : Int) : Int := if b < a then (if c < b then c else b) else (if c < a then c else a)
theorem m3_le (a b c : Int) : m3 a b c ≤ a ∧ m3 a b c ≤ b ∧ m3 a b c ≤ c ∧ (m3 a b c = a ∨ m3 a b c = b ∨ m3 a b c = c) := by
  unfold m3
  split <;> split <;> omega
def gap (q : Co) (x y : Int) : Int := if x = y then 0 else q.ch
/-- the least cost, of words read backwards -/
def E (q : Co) : List Int → List Int → Int
  | [], b => b.length * q.ad
  | _ :: a, [] => E q a [] + q.dr
  | x :: a, y :: b => m3 (E q a (y :: b) + q.dr) (E q (x :: a) b + q.ad) (E q a b + gap q x y)
theorem E_nil {q : Co} (b : List Int) : E q [] b = b.length * q.ad := by
  cases b <;> rw [E]
theorem E_drop {q : Co} (x : Int) (a b : List Int) : E q (x :: a) b ≤ E q a b + q.dr := by
  cases b with
  | nil => rw [E]; exact Int.le_refl _
  | cons y b => rw [E]; exact (m3_le _ _ _).1
theorem E_add {q : Co} (y : Int) (a b : List Int) : E q a (y :: b) ≤ E q a b + q.ad := by
  cases a with
  | nil =>
    rw [E_nil, E_nil, List.length_cons]
    have : ((b.length + 1 : Nat) : Int) * q.ad = b.length * q.ad + q.ad := by
      rw [Int.natCast_add, Int.add_mul]; simp
    omega
  | cons x a => rw [E]; exact (m3_le _ _ _).2.1
theorem E_both {q : Co} (x y : Int) (a b : List Int) : E q (x :: a) (y :: b) ≤ E q a b + gap q x y := by
  rw [E]; exact (m3_le _ _ _).2.2.1
theorem E_le {q : Co} (hq : q.Ok) {a b : List Int} {c : Int} (h : Al q a b c) : E q a b ≤ c := by
  have hc := hq.c
  induction h with
  | nil => rw [E_nil]; simp
  | @keep x a b c h ih =>
    have h1 := E_both (q := q) x x a b
    rw [gap, if_pos rfl] at h1
    omega
  | @chg x y a b c h ih =>
    have h1 := E_both (q := q) x y a b
    have h2 : gap q x y ≤ q.ch := by unfold gap; split <;> omega
    omega
  | @drop x a b c h ih =>
    have h1 := E_drop (q := q) x a b
    omega
  | @add y a b c h ih =>
    have h1 := E_add (q := q) y a b
    omega
theorem E_cases {q : Co} (x y : Int) (a b : List Int) : E q (x :: a) (y :: b) = E q a (y :: b) + q.dr ∨ E q (x :: a) (y :: b) = E q (x :: a) b + q.ad ∨ E q (x :: a) (y :: b) = E q a b + gap q x y := by
  rw [E]; exact (m3_le _ _ _).2.2.2
theorem E_add0 {q : Co} (y : Int) (b : List Int) : E q [] (y :: b) = E q [] b + q.ad := by
  rw [E_nil, E_nil, List.length_cons, Int.natCast_add, Int.add_mul]; simp
theorem E_al (q : Co) : ∀ a b : List Int, Al q a b (E q a b)
  | [], [] => by rw [E_nil]; exact Al.nil.cast (by simp)
  | [], y :: b => by rw [E_add0]; exact .add y (E_al q [] b)
  | x :: a, [] => by rw [E]; exact .drop x (E_al q a [])
  | x :: a, y :: b => by
    rcases E_cases (q := q) x y a b with e | e | e
    · rw [e]; exact .drop x (E_al q a (y :: b))
    · rw [e]; exact .add y (E_al q (x :: a) b)
    · rw [e]
      unfold gap
      split
      · rename_i h
        subst h
        exact (Al.keep x (E_al q a b)).cast (by omega)
      · exact .chg x y (E_al q a b)
/-- the least cost of edits from one word to another -/
def ed (q : Co) (a b : List Int) : Int := E q a.reverse b.reverse
theorem ed_al (q : Co) (a b : List Int) : Al q a b (ed q a b) := by
  have := (E_al q a.reverse b.reverse).rev
  rwa [List.reverse_reverse, List.reverse_reverse] at this
theorem ed_le {q : Co} (hq : q.Ok) {a b : List Int} {c : Int} (h : Al q a b c) : ed q a b ≤ c := E_le hq h.rev
theorem ed_rev {q : Co} (hq : q.Ok) (a b : List Int) : ed q a.reverse b.reverse = ed q a b := by
  have h1 := ed_le hq (ed_al q a b).rev
  have h2 := ed_le hq (ed_al q a.reverse b.reverse).rev
  rw [List.reverse_reverse, List.reverse_reverse] at h2
  omega
theorem ed_swap {q : Co} (hq : q.Ok) (a b : List Int) : ed q.back b a = ed q a b := by
  have h1 := ed_le hq.back (ed_al q a b).swap
  have h2 := ed_le (q := q) hq (ed_al q.back b a).swap
  omega
theorem ed_zero {q : Co} (hq : q.Ok) (a b : List Int) : ed q a b = 0 ↔ a = b := by
  constructor
  · exact ((ed_al q a b).lo hq).2
  · intro e
    subst e
    have h1 := ed_le hq (Al.refl q a)
    have h2 := ((ed_al q a a).lo hq).1
    omega
theorem ed_nn {q : Co} (hq : q.Ok) (a b : List Int) : 0 ≤ ed q a b := ((ed_al q a b).lo hq).1
theorem ed_append {q : Co} (hq : q.Ok) (a b a' b' : List Int) : ed q (a ++ a') (b ++ b') ≤ ed q a b + ed q a' b' := ed_le hq ((ed_al q a b).append (ed_al q a' b'))
theorem ed_tri {q : Co} (hq : q.Ok) (a b d : List Int) : ed q a d ≤ ed q a b + ed q b d := by
  obtain ⟨c, h, h2⟩ := Al.comp hq _ (Nat.le_refl _) (ed_al q a b) (ed_al q b d)
  have := ed_le hq h2
  omega
theorem ed_one {q : Co} (hq : q.Ok) (a b : List Int) (x : Int) : ed q (a ++ [x]) b ≤ ed q a b + q.dr ∧ ed q a b ≤ ed q (a ++ [x]) b + q.ad := by
  constructor
  · have h := (ed_al q a b).append (.drop x .nil : Al q [x] [] (0 + q.dr))
    rw [List.append_nil] at h
    have := ed_le hq h
    omega
  · have h := (Al.refl q a).append (.add x .nil : Al q [] [x] (0 + q.ad))
    rw [List.append_nil] at h
    have h1 := ed_le hq h
    have h2 := ed_tri hq a (a ++ [x]) b
    omega
theorem ed_front {q : Co} (hq : q.Ok) (c a b : List Int) : ed q (c ++ a) (c ++ b) ≤ ed q a b := by
  have := ed_le hq ((Al.refl q c).append (ed_al q a b))
  omega

/-! ### common rows -/
inductive Cs : List Int → List Int → Nat → Prop
  | nil : Cs [] [] 0
  | keep (x : Int) {a b : List Int} {k : Nat} : Cs a b k → Cs (x :: a) (x :: b) (k + 1)
  | drop (x : Int) {a b : List Int} {k : Nat} : Cs a b k → Cs (x :: a) b k
  | add (y : Int) {a b : List Int} {k : Nat} : Cs a b k → Cs a (y :: b) k
theorem Cs.swap {a b : List Int} {k : Nat} (h : Cs a b k) : Cs b a k := by
  induction h with
  | nil => exact .nil
  | keep x _ ih => exact .keep x ih
  | drop x _ ih => exact .add x ih
  | add y _ ih => exact .drop y ih
theorem Cs.le {a b : List Int} {k : Nat} (h : Cs a b k) : k ≤ a.length ∧ k ≤ b.length := by
  induction h with
  | nil => exact ⟨Nat.le_refl _, Nat.le_refl _⟩
  | keep x _ ih => simp; omega
  | drop x _ ih => simp; omega
  | add y _ ih => simp; omega
def dear (d a : Int) : Co := ⟨d, a, d + a⟩
def far (d a : Int) (x y : List Int) (k : Nat) : Int := ((x.length : Int) - k) * d + ((y.length : Int) - k) * a
theorem far_keep {d a : Int} {x y : List Int} {k : Nat} (u v : Int) : far d a (u :: x) (v :: y) (k + 1) = far d a x y k := by
  unfold far
  have h1 : ((u :: x).length : Int) - ((k + 1 : Nat) : Int) = (x.length : Int) - k := by simp; omega
  have h2 : ((v :: y).length : Int) - ((k + 1 : Nat) : Int) = (y.length : Int) - k := by simp; omega
  rw [h1, h2]
theorem far_drop {d a : Int} {x y : List Int} {k : Nat} (u : Int) : far d a (u :: x) y k = far d a x y k + d := by
  unfold far
  have h1 : ((u :: x).length : Int) - (k : Int) = (x.length : Int) - k + 1 := by simp; omega
  rw [h1, Int.add_mul, Int.one_mul]
  omega
theorem far_add {d a : Int} {x y : List Int} {k : Nat} (u : Int) : far d a x (u :: y) k = far d a x y k + a := by
  unfold far
  have h1 : ((u :: y).length : Int) - (k : Int) = (y.length : Int) - k + 1 := by simp; omega
  rw [h1, Int.add_mul ((y.length : Int) - k), Int.one_mul]
  omega
theorem Al.cs {d a : Int} {x y : List Int} {c : Int} (h : Al (dear d a) x y c) : ∃ k, Cs x y k ∧ c = far d a x y k := by
  induction h with
  | nil => exact ⟨0, .nil, by simp [far]⟩
  | keep u _ ih =>
    obtain ⟨k, h, e⟩ := ih
    exact ⟨k + 1, .keep u h, by rw [far_keep]; exact e⟩
  | chg u v _ ih =>
    obtain ⟨k, h, e⟩ := ih
    refine ⟨k, .drop u (.add v h), ?_⟩
    rw [far_drop, far_add, e]
    show _ + (d + a) = _
    omega
  | drop u _ ih =>
    obtain ⟨k, h, e⟩ := ih
    exact ⟨k, .drop u h, by rw [far_drop, e]; rfl⟩
  | add u _ ih =>
    obtain ⟨k, h, e⟩ := ih
    exact ⟨k, .add u h, by rw [far_add, e]; rfl⟩
theorem Cs.al {d a : Int} {x y : List Int} {k : Nat} (h : Cs x y k) : Al (dear d a) x y (far d a x y k) := by
  induction h with
  | nil => exact Al.nil.cast (by simp [far])
  | keep u _ ih => rw [far_keep]; exact .keep u ih
  | drop u _ ih => rw [far_drop]; exact .drop u ih
  | add u _ ih => rw [far_add]; exact .add u ih
theorem dear_ok {d a : Int} (hd : 0 < d) (ha : 0 < a) : (dear d a).Ok := ⟨hd, ha, by show 0 < d + a; omega⟩
/-- the greatest length of a common row -/
theorem lcs (x y : List Int) : ∃ L, Cs x y L ∧ (∀ k, Cs x y k → k ≤ L) ∧ ∀ d a : Int, 0 < d → 0 < a → ed (dear d a) x y = far d a x y L := by
  obtain ⟨L, h, e⟩ := (ed_al (dear 1 1) x y).cs
  have mx : ∀ k, Cs x y k → k ≤ L := fun k hk => by
    have h1 := ed_le (dear_ok (d := 1) (a := 1) (by decide) (by decide)) (hk.al (d := 1) (a := 1))
    rw [e] at h1
    unfold far at h1
    omega
  refine ⟨L, h, mx, fun d a hd ha => ?_⟩
  obtain ⟨k, hk, e2⟩ := (ed_al (dear d a) x y).cs
  have h1 := ed_le (dear_ok hd ha) (h.al (d := d) (a := a))
  have hkL := mx k hk
  rw [e2] at h1 ⊢
  obtain ⟨t, rfl⟩ : ∃ t : Nat, L = k + t := ⟨L - k, by omega⟩
  have e3 : far d a x y k = far d a x y (k + t) + t * (d + a) := by
    unfold far
    have e4 : ((x.length : Int) - (k : Int)) = ((x.length : Int) - ((k + t : Nat) : Int)) + t := by omega
    have e5 : ((y.length : Int) - (k : Int)) = ((y.length : Int) - ((k + t : Nat) : Int)) + t := by omega
    rw [e4, e5, Int.add_mul, Int.add_mul, Int.mul_add]
    omega
  have : 0 ≤ (t : Int) * (d + a) := Int.mul_nonneg (by omega) (by omega)
  omega
def cm (x y : List Int) : Int := ((x.length : Int) + y.length - ed (dear 1 1) x y) / 2
theorem cm_spec (x y : List Int) : ∃ L : Nat, cm x y = L ∧ Cs x y L ∧ (∀ k, Cs x y k → k ≤ L) ∧ ∀ d a : Int, 0 < d → 0 < a → ed (dear d a) x y = far d a x y L := by
  obtain ⟨L, h1, h2, h3⟩ := lcs x y
  refine ⟨L, ?_, h1, h2, h3⟩
  unfold cm
  rw [h3 1 1 (by decide) (by decide)]
  unfold far
  omega
theorem cm_far (x y : List Int) {d a : Int} (hd : 0 < d) (ha : 0 < a) : ed (dear d a) x y = ((x.length : Int) - cm x y) * d + ((y.length : Int) - cm x y) * a := by
  obtain ⟨L, e, _, _, h⟩ := cm_spec x y
  rw [h d a hd ha, e]; rfl
theorem cm_swap (x y : List Int) : cm x y = cm y x := by
  obtain ⟨L, e, h1, h2, _⟩ := cm_spec x y
  obtain ⟨M, e', h1', h2', _⟩ := cm_spec y x
  have := h2 M h1'.swap
  have := h2' L h1.swap
  omega
theorem cm_le (x y : List Int) : cm x y ≤ x.length ∧ cm x y ≤ y.length := by
  obtain ⟨L, e, h1, _, _⟩ := cm_spec x y
  have := h1.le
  omega
theorem sub_cs {x y : List Int} (h : List.Sublist y x) : Cs x y y.length := by
  induction h with
  | slnil => exact .nil
  | cons a _ ih => exact .drop a ih
  | cons_cons a _ ih => exact .keep a ih
theorem cm_sub {x y : List Int} (h : List.Sublist y x) : cm x y = y.length := by
  obtain ⟨L, e, h1, h2, _⟩ := cm_spec x y
  have := h2 _ (sub_cs h)
  have := h1.le
  omega
theorem sub_al {q : Co} {x y : List Int} (h : List.Sublist y x) : Al q x y (((x.length : Int) - y.length) * q.dr) := by
  induction h with
  | slnil => exact Al.nil.cast (by simp)
  | @cons l1 l2 a h ih =>
    refine (Al.drop a ih).cast ?_
    have e : ((a :: l2).length : Int) - l1.length = (l2.length : Int) - l1.length + 1 := by simp; omega
    rw [e, Int.add_mul, Int.one_mul]
  | @cons_cons l1 l2 a h ih =>
    refine (Al.keep a ih).cast ?_
    have e : ((a :: l2).length : Int) - (a :: l1).length = (l2.length : Int) - l1.length := by simp; omega
    rw [e]
theorem ed_sub {q : Co} (hq : q.Ok) {x y : List Int} (h : List.Sublist y x) : ed q x y ≤ ((x.length : Int) - y.length) * q.dr := ed_le hq (sub_al h)

/-! ### scripts -/
inductive W where
  | keep | change | drop | add
  deriving DecidableEq
def W.turn : W → W
  | .drop => .add
  | .add => .drop
  | w => w
inductive Sc (q : Co) : List Int → List Int → List W → Int → Prop
  | nil : Sc q [] [] [] 0
  | keep (x : Int) {a b : List Int} {w : List W} {c : Int} : Sc q a b w c → Sc q (x :: a) (x :: b) (.keep :: w) c
  | chg (x y : Int) {a b : List Int} {w : List W} {c : Int} : Sc q a b w c → Sc q (x :: a) (y :: b) (.change :: w) (c + q.ch)
  | drop (x : Int) {a b : List Int} {w : List W} {c : Int} : Sc q a b w c → Sc q (x :: a) b (.drop :: w) (c + q.dr)
  | add (y : Int) {a b : List Int} {w : List W} {c : Int} : Sc q a b w c → Sc q a (y :: b) (.add :: w) (c + q.ad)
theorem Sc.cast {q : Co} {a b : List Int} {w : List W} {c c' : Int} (h : Sc q a b w c) (e : c = c') : Sc q a b w c' := e ▸ h
theorem Sc.append {q : Co} {a b a' b' : List Int} {w w' : List W} {c c' : Int} (h : Sc q a b w c) (h' : Sc q a' b' w' c') : Sc q (a ++ a') (b ++ b') (w ++ w') (c + c') := by
  induction h with
  | nil => exact h'.cast (by omega)
  | keep x _ ih => exact .keep x ih
  | chg x y _ ih => exact (Sc.chg x y ih).cast (by omega)
  | drop x _ ih => exact (Sc.drop x ih).cast (by omega)
  | add y _ ih => exact (Sc.add y ih).cast (by omega)
theorem Sc.rev {q : Co} {a b : List Int} {w : List W} {c : Int} (h : Sc q a b w c) : Sc q a.reverse b.reverse w.reverse c := by
  induction h with
  | nil => exact .nil
  | keep x _ ih => rw [List.reverse_cons, List.reverse_cons, List.reverse_cons]; exact (ih.append (.keep x .nil)).cast (by omega)
  | chg x y _ ih => rw [List.reverse_cons, List.reverse_cons, List.reverse_cons]; exact (ih.append (.chg x y .nil)).cast (by omega)
  | @drop x a b w c _ ih =>
    have := (ih.append (.drop x .nil)).cast (c' := c + q.dr) (by omega)
    rw [List.append_nil] at this
    rw [List.reverse_cons, List.reverse_cons]; exact this
  | @add y a b w c _ ih =>
    have := (ih.append (.add y .nil)).cast (c' := c + q.ad) (by omega)
    rw [List.append_nil] at this
    rw [List.reverse_cons, List.reverse_cons]; exact this
theorem Sc.swap {q : Co} {a b : List Int} {w : List W} {c : Int} (h : Sc q a b w c) : Sc q.back b a (w.map W.turn) c := by
  induction h with
  | nil => exact .nil
  | keep x _ ih => exact .keep x ih
  | chg x y _ ih => exact .chg y x ih
  | drop x _ ih => exact .add x ih
  | add y _ ih => exact .drop y ih
theorem Sc.counts {q : Co} {a b : List Int} {w : List W} {c : Int} (h : Sc q a b w c) : w.count .keep + w.count .change + w.count .drop = a.length ∧ w.count .keep + w.count .change + w.count .add = b.length ∧
    c = (w.count .change : Int) * q.ch + (w.count .drop : Int) * q.dr + (w.count .add : Int) * q.ad := by
  induction h with
  | nil => simp
  | keep x _ ih => obtain ⟨h1, h2, h3⟩ := ih; simp [List.count_cons]; exact ⟨by omega, by omega, h3⟩
  | chg x y _ ih => obtain ⟨h1, h2, h3⟩ := ih; simp [List.count_cons]; exact ⟨by omega, by omega, by rw [h3, Int.add_mul]; omega⟩
  | drop x _ ih => obtain ⟨h1, h2, h3⟩ := ih; simp [List.count_cons]; exact ⟨by omega, by omega, by rw [h3, Int.add_mul]; omega⟩
  | add x _ ih => obtain ⟨h1, h2, h3⟩ := ih; simp [List.count_cons]; exact ⟨by omega, by omega, by rw [h3, Int.add_mul]; omega⟩
theorem Sc.len {q : Co} {a b : List Int} {w : List W} {c : Int} (h : Sc q a b w c) : w.length ≤ a.length + b.length := by
  induction h with
  | nil => simp
  | keep x _ ih => simp; omega
  | chg x y _ ih => simp; omega
  | drop x _ ih => simp; omega
  | add x _ ih => simp; omega
/-- the way back through the table, of words read backwards: its words from the last on -/
def pth (q : Co) : List Int → List Int → List W
  | [], [] => []
  | [], _ :: b => .add :: pth q [] b
  | _ :: a, [] => .drop :: pth q a []
  | x :: a, y :: b =>
    if x = y ∧ E q a b = E q (x :: a) (y :: b) then .keep :: pth q a b
    else if E q a b + q.ch = E q (x :: a) (y :: b) then .change :: pth q a b
    else if E q a (y :: b) + q.dr = E q (x :: a) (y :: b) then .drop :: pth q a (y :: b)
    else .add :: pth q (x :: a) b
theorem pth_sc (q : Co) : ∀ a b : List Int, Sc q a b (pth q a b) (E q a b)
  | [], [] => by rw [pth, E_nil]; exact Sc.nil.cast (by simp)
  | [], y :: b => by rw [pth, E_add0]; exact .add y (pth_sc q [] b)
  | x :: a, [] => by rw [pth, E]; exact .drop x (pth_sc q a [])
  | x :: a, y :: b => by
    rw [pth]
    split
    · rename_i h
      obtain ⟨h1, h2⟩ := h
      subst h1
      exact (Sc.keep x (pth_sc q a b)).cast h2
    · rename_i h
      split
      · rename_i h2
        exact (Sc.chg x y (pth_sc q a b)).cast h2
      · rename_i h2
        split
        · rename_i h3
          exact (Sc.drop x (pth_sc q a (y :: b))).cast h3
        · rename_i h3
          have e : E q (x :: a) b + q.ad = E q (x :: a) (y :: b) := by
            rcases E_cases (q := q) x y a b with e | e | e
            · exact absurd e.symm h3
            · exact e.symm
            · unfold gap at e
              split at e
              · rename_i hxy
                exact absurd ⟨hxy, by omega⟩ h
              · exact absurd e.symm h2
          exact (Sc.add y (pth_sc q (x :: a) b)).cast e
end Ed
set_option Elab.async false
set_option linter.all false
set_option maxRecDepth 100000
set_option maxHeartbeats 100000
/-! K47m: what the functions over data answer, told by M47's numbers. -/
namespace K47
open PySem PySem.Spec PyProof.Rows L2 DL Ed
def wI (w : List Int) : D := .tup (w.map .int)
def cQ (q : Co) : D := .tup [.int q.dr, .int q.ad, .int q.ch]
@[simp] theorem lf_wI (w : List Int) : (wI w).lf = true := by simp [wI]
@[simp] theorem lf_cQ (q : Co) : (cQ q).lf = true := by simp [cQ]
@[simp] theorem isi_wI (T : String) (w : List Int) : isiD T (wI w) = some (.bl (isTy "tuple" T)) := rfl
@[simp] theorem isi_cQ (T : String) (q : Co) : isiD T (cQ q) = some (.bl (isTy "tuple" T)) := rfl
@[simp] theorem len_wI (w : List Int) : bLen [wI w] = some (.int w.length) := by simp [wI]
@[simp] theorem len_cQ (q : Co) : bLen [cQ q] = some (.int 3) := rfl
@[simp] theorem items_wI (w : List Int) : (wI w).items = some (w.map D.int) := rfl
@[simp] theorem lfT_wI (w : List Int) : lfT (wI w) = some (w.map D.int) := by simp [wI]
@[simp] theorem gT_cQ (q : Co) (gs : List D → Ev → Option Ev) (δ : Ev) : gT 3 gs (cQ q) δ = gs [.int q.dr, .int q.ad, .int q.ch] δ := rfl
@[simp] theorem items_cQ (q : Co) : (cQ q).items = some [.int q.dr, .int q.ad, .int q.ch] := rfl
@[simp] theorem isint (i : Int) (s : Src) : F_is_integer [.int i] s = some (.bl true, s) := by
  unfold F_is_integer
  exact run_rt (by simp [g_is_integer])
theorem cw1 {A B C E F : Sl} (w : List Int) (h : w.length ≤ 8) (s : Src) : b_check_words_2 [A, B, C, .rd (wI w), E, F] s = some (.nx [A, B, C, .rd (wI w), E, F], s) := by
  have h1 : c_check_words_1 [A, B, C, .rd (wI w), E, F] s = some (.lst (w.map fun _ => .bl false), s) := by
    unfold c_check_words_1
    simp only [eLc_ap, iSeq_ap, eVar_ap, gt_succ, gt_zero, sl_rd, of_some, Option.bind_some, items_wI, List.length_map]
    rw [if_pos (by omega), cLp_map (α := Int) D.int (fun _ => .bl false)]
    · rfl
    · intro i _
      refine ⟨_, rfl, rfl, ?_⟩
      simp
  unfold b_check_words_2
  simp [h1, boolL_map (fun _ : Int => false), show ¬ 8 < (w.length : Int) by omega]
theorem chk {a b : List Int} {q : Co} (ha : a.length ≤ 8) (hb : b.length ≤ 8) (hq : q.Ok) (s : Src) : F_check_words [wI a, wI b, cQ q] s = some (.non, s) := by
  have h3 : c_check_words_3 [.rd (wI a), .rd (wI b), .rd (cQ q), .rd (wI b), .no, .no] s = some (.lst [.bl false, .bl false, .bl false], s) := by
    unfold c_check_words_3
    simp only [eLc_ap, iSeq_ap, eVar_ap, gt_succ, gt_zero, sl_rd, of_some, Option.bind_some, items_cQ]
    have e : [D.int q.dr, D.int q.ad, D.int q.ch] = [q.dr, q.ad, q.ch].map D.int := rfl
    rw [e, cLp_map (α := Int) D.int (fun _ => .bl false)]
    · rfl
    · intro i hi
      refine ⟨_, rfl, rfl, ?_⟩
      have : ¬ i ≤ 0 := by
        have := hq.d; have := hq.a; have := hq.c
        simp at hi
        omega
      simp [this]
  unfold F_check_words
  refine run_nx (δ1 := [.rd (wI a), .rd (wI b), .rd (cQ q), .rd (wI b), .no, .no]) (s1 := s) ?_
  unfold g_check_words
  have hl : fLp (gN 3) b_check_words_2 [wI a, wI b] [.rd (wI a), .rd (wI b), .rd (cQ q), .no, .no, .no] s = some (.nx [.rd (wI a), .rd (wI b), .rd (cQ q), .rd (wI b), .no, .no], s) := by
    simp [fLp, cw1 _ ha, cw1 _ hb]
  rw [seq_nx (δ1 := [.rd (wI a), .rd (wI b), .rd (cQ q), .rd (wI b), .no, .no]) (s1 := s) (by simp [hl])]
  simp [h3, boolL]
/-! the table -/
def cel (q : Co) (a b : List Int) (i j : Nat) : Int := E q (a.take i).reverse (b.take j).reverse
theorem take_succ_rev {a : List Int} {i : Nat} {x : Int} (h : a[i]? = some x) : (a.take (i + 1)).reverse = x :: (a.take i).reverse := by
  rw [List.take_add_one, h]; simp
theorem cel_00 (q : Co) (a b : List Int) : cel q a b 0 0 = 0 := by unfold cel; rw [List.take_zero, List.reverse_nil, E_nil]; simp
theorem cel_0 (q : Co) (a b : List Int) {j : Nat} (h : j ≤ b.length) : cel q a b 0 j = j * q.ad := by
  unfold cel; rw [List.take_zero, List.reverse_nil, E_nil, List.length_reverse, List.length_take, Nat.min_eq_left h]
theorem cel_s0 (q : Co) {a b : List Int} {i : Nat} {x : Int} (h : a[i]? = some x) : cel q a b (i + 1) 0 = cel q a b i 0 + q.dr := by
  unfold cel; rw [take_succ_rev h, List.take_zero, List.reverse_nil, E]
theorem cel_ss (q : Co) {a b : List Int} {i j : Nat} {x y : Int} (h : a[i]? = some x) (h2 : b[j]? = some y) : cel q a b (i + 1) (j + 1) = m3 (cel q a b i (j + 1) + q.dr) (cel q a b (i + 1) j + q.ad) (cel q a b i j + gap q x y) := by
  unfold cel; rw [take_succ_rev h, take_succ_rev h2, E]
theorem cel_end (q : Co) (a b : List Int) : cel q a b a.length b.length = ed q a b := by
  unfold cel ed; rw [List.take_length, List.take_length]
def rowI (q : Co) (a b : List Int) (i n : Nat) : List D := (List.range n).map fun j => .int (cel q a b i j)
def tbl (q : Co) (a b : List Int) : D := .tup ((List.range (a.length + 1)).map fun i => .tup (rowI q a b i (b.length + 1)))
theorem row_s (q : Co) (a b : List Int) (i n : Nat) : rowI q a b i (n + 1) = rowI q a b i n ++ [.int (cel q a b i n)] := by
  unfold rowI; rw [List.range_succ, List.map_append]; rfl
theorem row_at (q : Co) (a b : List Int) (i : Nat) {n j : Nat} (h : j < n) : atI (rowI q a b i n) (j : Int) = some (.int (cel q a b i j)) := at_rg _ h
def rws (q : Co) (a b : List Int) (k : Nat) : List D := (List.range k).map fun i => .lst (rowI q a b i (b.length + 1))
theorem et2 {q : Co} {a b : List Int} {A B C s9 s10 s11 : Sl} {i j : Nat} {x y : Int} (h : a[i]? = some x) (h2 : b[j]? = some y) (hb : b.length ≤ 8) (s : Src) :
    b_edit_table_2 [A, B, C, .rd (.int q.dr), .rd (.int q.ad), .rd (.int q.ch), .ow (.lst (rws q a b (i + 1))), .rd (.int x), .ow (.lst (rowI q a b (i + 1) (j + 1))), .rd (.int j), .rd (.int y), s11] s =
      some (.nx [A, B, C, .rd (.int q.dr), .rd (.int q.ad), .rd (.int q.ch), .ow (.lst (rws q a b (i + 1))), .rd (.int x), .ow (.lst (rowI q a b (i + 1) (j + 1 + 1))), .rd (.int j), .rd (.int y), .rd (.int (cel q a b i j + gap q x y))], s) := by
  have hj : j < b.length := (List.getElem?_eq_some_iff.mp h2).1
  have l1 : atI (rws q a b (i + 1)) (-1) = some (.lst (rowI q a b i (b.length + 1))) := at_rg_last _
  have l2 : atI (rowI q a b i (b.length + 1)) (j : Int) = some (.int (cel q a b i j)) := row_at q a b i (by omega)
  have l3 : atI (rowI q a b i (b.length + 1)) ((j : Int) + 1) = some (.int (cel q a b i (j + 1))) := row_at q a b i (j := j + 1) (by omega)
  have l4 : atI (rowI q a b (i + 1) (j + 1)) (-1) = some (.int (cel q a b (i + 1) j)) := at_rg_last _
  have hlen : (rowI q a b (i + 1) (j + 1)).length < 1000000 := by simp [rowI]; omega
  unfold b_edit_table_2
  rw [seq_nx (δ1 := [A, B, C, .rd (.int q.dr), .rd (.int q.ad), .rd (.int q.ch), .ow (.lst (rws q a b (i + 1))), .rd (.int x), .ow (.lst (rowI q a b (i + 1) (j + 1))), .rd (.int j), .rd (.int y), .rd (.int (cel q a b i j + gap q x y))]) (s1 := s)]
  · rw [sApp_ap (ds := rowI q a b (i + 1) (j + 1)) rfl]
    simp [l1, l3, l4, hlen]
    rw [row_s q a b (i + 1) (j + 1), cel_ss q h h2]
    rfl
  · by_cases hxy : x = y
    · simp [l1, l2, hxy, gap]
    · simp [l1, l2, hxy, gap]
theorem et3 {q : Co} {a b : List Int} {C s9 s10 s11 s8 : Sl} {i : Nat} {x : Int} (h : a[i]? = some x) (hb : b.length ≤ 8) (ha : a.length ≤ 8) (s : Src) :
    ∃ t9 t10 t11 : Sl, b_edit_table_3 [.rd (wI a), .rd (wI b), C, .rd (.int q.dr), .rd (.int q.ad), .rd (.int q.ch), .ow (.lst (rws q a b (i + 1))), .rd (.int x), s8, s9, s10, s11] s =
      some (.nx [.rd (wI a), .rd (wI b), C, .rd (.int q.dr), .rd (.int q.ad), .rd (.int q.ch), .ow (.lst (rws q a b (i + 1 + 1))), .rd (.int x), .no, t9, t10, t11], s) := by
  have hi : i < a.length := (List.getElem?_eq_some_iff.mp h).1
  have l1 : atI (rws q a b (i + 1)) (-1) = some (.lst (rowI q a b i (b.length + 1))) := at_rg_last _
  have l2 : atI (rowI q a b i (b.length + 1)) 0 = some (.int (cel q a b i 0)) := row_at q a b i (j := 0) (by omega)
  unfold b_edit_table_3
  rw [seq_nx (δ1 := [.rd (wI a), .rd (wI b), C, .rd (.int q.dr), .rd (.int q.ad), .rd (.int q.ch), .ow (.lst (rws q a b (i + 1))), .rd (.int x), .ow (.lst (rowI q a b (i + 1) 1)), s9, s10, s11]) (s1 := s)]
  rotate_left
  · have r1 : rowI q a b (i + 1) 1 = [.int (cel q a b i 0 + q.dr)] := by simp [rowI, cel_s0 q h]
    simp [l1, l2, r1]
  obtain ⟨δ', h1, t9, t10, t11, h2⟩ := fLp_inv (tg := gT 2 (gsC (gN 9) (gsC (gN 10) gs0))) (body := b_edit_table_2) (s := s)
    (fun k δ => ∃ t9 t10 t11 : Sl, δ = [.rd (wI a), .rd (wI b), C, .rd (.int q.dr), .rd (.int q.ad), .rd (.int q.ch), .ow (.lst (rws q a b (i + 1))), .rd (.int x), .ow (.lst (rowI q a b (i + 1) (k + 1))), t9, t10, t11])
    (enumD 0 (b.map D.int)) 0 _ ⟨s9, s10, s11, rfl⟩ (fun j d δ hd hI => by
      obtain ⟨t9, t10, t11, rfl⟩ := hI
      rw [enumD_get, List.getElem?_map] at hd
      obtain ⟨y, hy, rfl⟩ : ∃ y, b[j]? = some y ∧ d = .tup [.int (j : Int), .int y] := by
        cases e : b[j]? with
        | none => rw [e] at hd; cases hd
        | some y => rw [e] at hd; simp at hd; exact ⟨y, rfl, hd.symm⟩
      refine ⟨by simp, _, _, rfl, ?_, .rd (.int j), .rd (.int y), .rd (.int (cel q a b i j + gap q x y)), rfl⟩
      rw [Nat.zero_add]
      exact et2 (s9 := t9) (s10 := t10) h hy hb s)
  subst h2
  simp only [enumD_len, List.length_map, Nat.zero_add] at h1
  refine ⟨t9, t10, t11, ?_⟩
  rw [seq_nx (δ1 := _) (s1 := s) (h := by
    simp only [sFor_ap, iOf_ap, eAs_ap, eVar_ap, gt_succ, gt_zero, sl_rd, of_some, Option.bind_some, eAs0_ap, en1T, lfT_wI, Option.map_some]
    exact h1)]
  rw [sAppM_ap (ds := rws q a b (i + 1)) (es := rowI q a b (i + 1) (b.length + 1)) rfl rfl, if_pos (by simp [rws]; omega)]
  simp only [rws]
  rw [List.range_succ (n := i + 1), List.map_append]
  rfl
theorem et1 {a b : List Int} {q : Co} (hb : b.length ≤ 8) (s : Src) : c_edit_table_1 [.rd (wI a), .rd (wI b), .rd (cQ q), .rd (.int q.dr), .rd (.int q.ad), .rd (.int q.ch), .no, .no, .no, .no, .no, .no] s = some (.lst (rowI q a b 0 (b.length + 1)), s) := by
  unfold c_edit_table_1
  refine lc_eq (s1 := s) (by simp [rg1_s (show b.length < 1000000 by omega)]) (by rw [rgs_len]; omega) (cLp_rgs (fun j => .int (cel q a b 0 j)) _ fun j hj => ?_)
  refine ⟨_, rfl, rfl, ?_⟩
  simp [DL.mul_int (DL.mulC_l (i := (j : Int)) (j := q.ad) (by omega)), cel_0 q a b (show j ≤ b.length by omega)]
theorem table {a b : List Int} {q : Co} (ha : a.length ≤ 8) (hb : b.length ≤ 8) (hq : q.Ok) (s : Src) : F_edit_table [wI a, wI b, cQ q] s = some (tbl q a b, s) := by
  unfold F_edit_table
  refine run_rt ?_
  show g_edit_table [.rd (wI a), .rd (wI b), .rd (cQ q), .no, .no, .no, .no, .no, .no, .no, .no, .no] s = _
  unfold g_edit_table
  rw [seq_nx (δ1 := [.rd (wI a), .rd (wI b), .rd (cQ q), .no, .no, .no, .no, .no, .no, .no, .no, .no]) (s1 := s) (by simp [chk ha hb hq])]
  rw [seq_nx (δ1 := [.rd (wI a), .rd (wI b), .rd (cQ q), .rd (.int q.dr), .rd (.int q.ad), .rd (.int q.ch), .no, .no, .no, .no, .no, .no]) (s1 := s) (by simp)]
  have h1 := et1 (a := a) (q := q) hb s
  rw [seq_nx (δ1 := [.rd (wI a), .rd (wI b), .rd (cQ q), .rd (.int q.dr), .rd (.int q.ad), .rd (.int q.ch), .ow (.lst (rws q a b 1)), .no, .no, .no, .no, .no]) (s1 := s) (by simp [h1, rws])]
  obtain ⟨δ', h2, s7, s8, s9, s10, s11, h3⟩ := fLp_inv (tg := gN 7) (body := b_edit_table_3) (s := s)
    (fun k δ => ∃ s7 s8 s9 s10 s11 : Sl, δ = [.rd (wI a), .rd (wI b), .rd (cQ q), .rd (.int q.dr), .rd (.int q.ad), .rd (.int q.ch), .ow (.lst (rws q a b (k + 1))), s7, s8, s9, s10, s11])
    (a.map D.int) 0 _ ⟨.no, .no, .no, .no, .no, rfl⟩ (fun i d δ hd hI => by
      obtain ⟨s7, s8, s9, s10, s11, rfl⟩ := hI
      rw [List.getElem?_map] at hd
      obtain ⟨x, hx, rfl⟩ := Option.map_eq_some_iff.mp hd
      obtain ⟨t9, t10, t11, e⟩ := et3 (C := .rd (cQ q)) (s8 := s8) (s9 := s9) (s10 := s10) (s11 := s11) hx hb ha (q := q) s
      refine ⟨rfl, _, _, rfl, ?_, .rd (.int x), .no, t9, t10, t11, rfl⟩
      rw [Nat.zero_add]
      exact e)
  subst h3
  simp only [List.length_map, Nat.zero_add] at h2
  rw [seq_nx (δ1 := _) (s1 := s) (h := by
    simp only [sFor_ap, iSeqT_ap, eVar_ap, gt_succ, gt_zero, sl_rd, of_some, Option.bind_some, lfT_wI]
    exact h2)]
  have h4 : c_edit_table_4 [.rd (wI a), .rd (wI b), .rd (cQ q), .rd (.int q.dr), .rd (.int q.ad), .rd (.int q.ch), .ow (.lst (rws q a b (a.length + 1))), s7, s8, s9, s10, s11] s = some (.lst ((List.range (a.length + 1)).map fun i => .tup (rowI q a b i (b.length + 1))), s) := by
    unfold c_edit_table_4
    exact lc_eq (s1 := s) (by simp [rws]) (by simp only [List.length_map, List.length_range]; omega)
      (cLp_map (α := Nat) (fun i => D.lst (rowI q a b i (b.length + 1))) (fun i => .tup (rowI q a b i (b.length + 1))) (List.range (a.length + 1)) fun i hi => ⟨_, rfl, rfl, by simp⟩)
  simp [h4, tbl]
/-! the least cost, the longest common row -/
theorem tbl_last (q : Co) (a b : List Int) : dIx (tbl q a b) (.int (-1)) = some (.tup (rowI q a b a.length (b.length + 1))) := at_rg_last _
theorem row_last (q : Co) (a b : List Int) : dIx (.tup (rowI q a b a.length (b.length + 1))) (.int (-1)) = some (.int (ed q a b)) := by
  rw [← cel_end q a b]; exact at_rg_last _
theorem least {a b : List Int} {q : Co} (ha : a.length ≤ 8) (hb : b.length ≤ 8) (hq : q.Ok) (s : Src) : F__law_least [wI a, wI b, cQ q] s = some (.int (ed q a b), s) := by
  unfold F__law_least
  refine run_rt ?_
  show g__law_least [.rd (wI a), .rd (wI b), .rd (cQ q)] s = _
  unfold g__law_least
  simp [table ha hb hq, tbl_last, row_last, -ix_int]
theorem cost112 : D.tup [.int 1, .int 1, .int 2] = cQ (dear 1 1) := rfl
theorem comm {a b : List Int} (ha : a.length ≤ 8) (hb : b.length ≤ 8) (s : Src) : F_common [wI a, wI b] s = some (.int (cm a b), s) := by
  unfold F_common
  refine run_rt ?_
  show g_common [.rd (wI a), .rd (wI b), .no] s = _
  unfold g_common
  rw [seq_nx (δ1 := [.rd (wI a), .rd (wI b), .rd (.int (ed (dear 1 1) a b))]) (s1 := s)]
  · simp
    show some _ = some _
    rw [cm]
  · simp [cost112, table ha hb (dear_ok (d := 1) (a := 1) (by decide) (by decide)), tbl_last, row_last, -ix_int]
/-! papers -/
theorem tbl_at (q : Co) (a b : List Int) {i : Nat} (h : i ≤ a.length) : dIx (tbl q a b) (.int (i : Nat)) = some (.tup (rowI q a b i (b.length + 1))) := at_rg _ (by omega)
theorem row_at2 (q : Co) (a b : List Int) (i : Nat) {j : Nat} (h : j ≤ b.length) : dIx (.tup (rowI q a b i (b.length + 1))) (.int (j : Nat)) = some (.int (cel q a b i j)) := row_at q a b i (by omega)
theorem tbl_at1 (q : Co) (a b : List Int) {i : Nat} (h : i < a.length) : dIx (tbl q a b) (.int ((i : Int) + 1)) = some (.tup (rowI q a b (i + 1) (b.length + 1))) := tbl_at q a b (i := i + 1) h
theorem row_at1 (q : Co) (a b : List Int) (i : Nat) {j : Nat} (h : j < b.length) : dIx (.tup (rowI q a b i (b.length + 1))) (.int ((j : Int) + 1)) = some (.int (cel q a b i (j + 1))) := row_at2 q a b i (j := j + 1) h
theorem tbl_at0 (q : Co) (a b : List Int) : dIx (tbl q a b) (.int 0) = some (.tup (rowI q a b 0 (b.length + 1))) := tbl_at q a b (i := 0) (by omega)
theorem row_at0 (q : Co) (a b : List Int) (i : Nat) : dIx (.tup (rowI q a b i (b.length + 1))) (.int 0) = some (.int (cel q a b i 0)) := row_at2 q a b i (j := 0) (by omega)
theorem wI_at {a : List Int} {i : Nat} {x : Int} (h : a[i]? = some x) : dIx (wI a) (.int (i : Nat)) = some (.int x) := at_nat (by rw [List.getElem?_map, h]; rfl)
@[simp] theorem lf_tbl (q : Co) (a b : List Int) : (tbl q a b).lf = true := by
  unfold tbl
  rw [lf_tup]
  refine lfs_map (fun i => ?_) _
  rw [lf_tup]
  exact lfs_map (fun j => rfl) _
def wW : W → Str
  | .keep => "keep"
  | .change => "change"
  | .drop => "drop"
  | .add => "add"
def wD (w : W) : D := .str (wW w)
def ev (q : Co) (a b : List Int) (x y : Int) (l : List D) (t : Sl) : Ev := [.rd (wI a), .rd (wI b), .rd (cQ q), .rd (tbl q a b), .rd (.int q.dr), .rd (.int q.ad), .rd (.int q.ch), .rd (.int x), .rd (.int y), .ow (.lst l), t]
section
variable {q : Co} {a b : List Int} {i j : Nat} {x y : Int} {l : List D} {t : Sl} {s : Src}
theorem ep_ss (h : a[i]? = some x) (h2 : b[j]? = some y) (hl : l.length < 1000000) : ∃ t', b_edit_paper_1 (ev q a b ((i : Int) + 1) ((j : Int) + 1) l t) s = some (.nx (
    if x = y ∧ cel q a b i j = cel q a b (i + 1) (j + 1) then ev q a b i j (l ++ [wD .keep]) t'
    else if cel q a b i j + q.ch = cel q a b (i + 1) (j + 1) then ev q a b i j (l ++ [wD .change]) t'
    else if cel q a b i (j + 1) + q.dr = cel q a b (i + 1) (j + 1) then ev q a b i ((j : Int) + 1) (l ++ [wD .drop]) t'
    else ev q a b ((i : Int) + 1) j (l ++ [wD .add]) t'), s) := by
  have hi : i < a.length := (List.getElem?_eq_some_iff.mp h).1
  have hj : j < b.length := (List.getElem?_eq_some_iff.mp h2).1
  refine ⟨.rd (.int (cel q a b (i + 1) (j + 1))), ?_⟩
  unfold b_edit_paper_1 ev
  rw [seq_nx (δ1 := ev q a b ((i : Int) + 1) ((j : Int) + 1) l (.rd (.int (cel q a b (i + 1) (j + 1))))) (s1 := s) (by simp [ev, tbl_at1 q a b hi, row_at1 q a b (i + 1) hj, -ix_int])]
  unfold ev
  by_cases e1 : x = y <;> by_cases e2 : cel q a b i j = cel q a b (i + 1) (j + 1) <;> by_cases e3 : cel q a b i j + q.ch = cel q a b (i + 1) (j + 1) <;> by_cases e4 : cel q a b i (j + 1) + q.dr = cel q a b (i + 1) (j + 1) <;>
    simp [sApp, hl, tbl_at q a b (show i ≤ a.length by omega), row_at2 q a b i (show j ≤ b.length by omega), row_at1 q a b i hj, wI_at h, wI_at h2, -ix_int, e1, e2, e3, e4, wD, wW, show (0 : Int) < (i : Int) + 1 by omega, show (0 : Int) < (j : Int) + 1 by omega, show (i : Int) + 1 - 1 = i by omega, show (j : Int) + 1 - 1 = j by omega] <;> (split <;> rfl)
theorem ep_s0 (h : a[i]? = some x) (hl : l.length < 1000000) : ∃ t', b_edit_paper_1 (ev q a b ((i : Int) + 1) 0 l t) s = some (.nx (ev q a b i 0 (l ++ [wD .drop]) t'), s) := by
  have hi : i < a.length := (List.getElem?_eq_some_iff.mp h).1
  refine ⟨.rd (.int (cel q a b (i + 1) 0)), ?_⟩
  unfold b_edit_paper_1 ev
  rw [seq_nx (δ1 := ev q a b ((i : Int) + 1) 0 l (.rd (.int (cel q a b (i + 1) 0)))) (s1 := s) (by simp [ev, tbl_at1 q a b hi, row_at0 q a b (i + 1), -ix_int])]
  unfold ev
  simp [sApp, hl, tbl_at q a b (show i ≤ a.length by omega), row_at0 q a b i, -ix_int, wD, wW, show (0 : Int) < (i : Int) + 1 by omega, show (i : Int) + 1 - 1 = i by omega, cel_s0 q h]
theorem ep_0s (h2 : b[j]? = some y) (hl : l.length < 1000000) : ∃ t', b_edit_paper_1 (ev q a b 0 ((j : Int) + 1) l t) s = some (.nx (ev q a b 0 j (l ++ [wD .add]) t'), s) := by
  have hj : j < b.length := (List.getElem?_eq_some_iff.mp h2).1
  refine ⟨.rd (.int (cel q a b 0 (j + 1))), ?_⟩
  unfold b_edit_paper_1 ev
  rw [seq_nx (δ1 := ev q a b 0 ((j : Int) + 1) l (.rd (.int (cel q a b 0 (j + 1))))) (s1 := s) (by simp [ev, tbl_at0 q a b, row_at1 q a b 0 hj, -ix_int])]
  unfold ev
  simp [sApp, hl, -ix_int, wD, wW, show (0 : Int) < (j : Int) + 1 by omega, show (j : Int) + 1 - 1 = j by omega]
end
def P (q : Co) (a b : List Int) (i j : Nat) : List W := pth q (a.take i).reverse (b.take j).reverse
theorem P_00 (q : Co) (a b : List Int) : P q a b 0 0 = [] := by unfold P; rw [List.take_zero, List.take_zero, List.reverse_nil, pth]
theorem P_s0 (q : Co) {a b : List Int} {i : Nat} {x : Int} (h : a[i]? = some x) : P q a b (i + 1) 0 = .drop :: P q a b i 0 := by unfold P; rw [take_succ_rev h, List.take_zero, List.reverse_nil, pth]
theorem P_0s (q : Co) {a b : List Int} {j : Nat} {y : Int} (h : b[j]? = some y) : P q a b 0 (j + 1) = .add :: P q a b 0 j := by unfold P; rw [take_succ_rev h, List.take_zero, List.reverse_nil, pth]
theorem P_ss (q : Co) {a b : List Int} {i j : Nat} {x y : Int} (h : a[i]? = some x) (h2 : b[j]? = some y) : P q a b (i + 1) (j + 1) =
    if x = y ∧ cel q a b i j = cel q a b (i + 1) (j + 1) then .keep :: P q a b i j
    else if cel q a b i j + q.ch = cel q a b (i + 1) (j + 1) then .change :: P q a b i j
    else if cel q a b i (j + 1) + q.dr = cel q a b (i + 1) (j + 1) then .drop :: P q a b i (j + 1)
    else .add :: P q a b (i + 1) j := by
  unfold P cel; rw [take_succ_rev h, take_succ_rev h2, pth]
theorem ep_loop {q : Co} {a b : List Int} {s : Src} : ∀ (m i j : Nat) (l : List D) (t : Sl), i + j < m → i ≤ a.length → j ≤ b.length → l.length + (i + j) < 1000000 →
    ∃ t', wLp t_edit_paper_2 b_edit_paper_1 m (ev q a b i j l t) s = some (.nx (ev q a b 0 0 (l ++ (P q a b i j).map wD) t'), s)
  | 0, i, j, l, t, h, _, _, _ => absurd h (by omega)
  | m + 1, 0, 0, l, t, _, _, _, _ => by
    refine ⟨t, ?_⟩
    rw [wLp, P_00]
    simp [t_edit_paper_2, ev]
  | m + 1, i + 1, 0, l, t, h, hi, hj, hl => by
    obtain ⟨x, hx⟩ : ∃ x, a[i]? = some x := ⟨_, List.getElem?_eq_getElem hi⟩
    obtain ⟨t1, e1⟩ := ep_s0 (q := q) (b := b) (l := l) (t := t) (s := s) hx (by omega)
    obtain ⟨t2, e2⟩ := ep_loop (q := q) (a := a) (b := b) (s := s) m i 0 (l ++ [wD .drop]) t1 (by omega) (by omega) hj (by simp; omega)
    refine ⟨t2, ?_⟩
    have c : t_edit_paper_2 (ev q a b ((i : Int) + 1) 0 l t) s = some (true, s) := by simp [t_edit_paper_2, ev, show (0 : Int) < (i : Int) + 1 by omega]
    rw [wLp, bd_ap]
    show Option.bind (t_edit_paper_2 (ev q a b ((i : Int) + 1) 0 l t) s) _ = _
    rw [c, Option.bind_some, if_pos rfl, bd_ap]
    show Option.bind (b_edit_paper_1 (ev q a b ((i : Int) + 1) 0 l t) s) _ = _
    rw [e1, Option.bind_some]
    show wLp t_edit_paper_2 b_edit_paper_1 m (ev q a b i (0 : Nat) (l ++ [wD .drop]) t1) s = _
    rw [e2, P_s0 q hx, List.map_cons, List.append_assoc]; rfl
  | m + 1, 0, j + 1, l, t, h, hi, hj, hl => by
    obtain ⟨y, hy⟩ : ∃ y, b[j]? = some y := ⟨_, List.getElem?_eq_getElem hj⟩
    obtain ⟨t1, e1⟩ := ep_0s (q := q) (a := a) (l := l) (t := t) (s := s) hy (by omega)
    obtain ⟨t2, e2⟩ := ep_loop (q := q) (a := a) (b := b) (s := s) m 0 j (l ++ [wD .add]) t1 (by omega) (by omega) (by omega) (by simp; omega)
    refine ⟨t2, ?_⟩
    have c : t_edit_paper_2 (ev q a b 0 ((j : Int) + 1) l t) s = some (true, s) := by simp [t_edit_paper_2, ev, show (0 : Int) < (j : Int) + 1 by omega]
    rw [wLp, bd_ap]
    show Option.bind (t_edit_paper_2 (ev q a b 0 ((j : Int) + 1) l t) s) _ = _
    rw [c, Option.bind_some, if_pos rfl, bd_ap]
    show Option.bind (b_edit_paper_1 (ev q a b 0 ((j : Int) + 1) l t) s) _ = _
    rw [e1, Option.bind_some]
    show wLp t_edit_paper_2 b_edit_paper_1 m (ev q a b (0 : Nat) j (l ++ [wD .add]) t1) s = _
    rw [e2, P_0s q hy, List.map_cons, List.append_assoc]; rfl
  | m + 1, i + 1, j + 1, l, t, h, hi, hj, hl => by
    obtain ⟨x, hx⟩ : ∃ x, a[i]? = some x := ⟨_, List.getElem?_eq_getElem hi⟩
    obtain ⟨y, hy⟩ : ∃ y, b[j]? = some y := ⟨_, List.getElem?_eq_getElem hj⟩
    obtain ⟨t1, e1⟩ := ep_ss (q := q) (l := l) (t := t) (s := s) hx hy (by omega)
    have c : t_edit_paper_2 (ev q a b ((i : Int) + 1) ((j : Int) + 1) l t) s = some (true, s) := by simp [t_edit_paper_2, ev, show (0 : Int) < (i : Int) + 1 by omega]
    rw [wLp, bd_ap]
    show ∃ t', Option.bind (t_edit_paper_2 (ev q a b ((i : Int) + 1) ((j : Int) + 1) l t) s) _ = _
    rw [c, Option.bind_some, if_pos rfl, bd_ap]
    show ∃ t', Option.bind (b_edit_paper_1 (ev q a b ((i : Int) + 1) ((j : Int) + 1) l t) s) _ = _
    rw [e1, Option.bind_some, P_ss q hx hy]
    show ∃ t', wLp t_edit_paper_2 b_edit_paper_1 m _ s = _
    split
    · obtain ⟨t2, e2⟩ := ep_loop (q := q) (a := a) (b := b) (s := s) m i j (l ++ [wD .keep]) t1 (by omega) (by omega) (by omega) (by simp; omega)
      exact ⟨t2, by rw [e2, List.map_cons, List.append_assoc]; rfl⟩
    · split
      · obtain ⟨t2, e2⟩ := ep_loop (q := q) (a := a) (b := b) (s := s) m i j (l ++ [wD .change]) t1 (by omega) (by omega) (by omega) (by simp; omega)
        exact ⟨t2, by rw [e2, List.map_cons, List.append_assoc]; rfl⟩
      · split
        · obtain ⟨t2, e2⟩ := ep_loop (q := q) (a := a) (b := b) (s := s) m i (j + 1) (l ++ [wD .drop]) t1 (by omega) (by omega) (by omega) (by simp; omega)
          exact ⟨t2, by rw [show ((j : Int) + 1) = ((j + 1 : Nat) : Int) by omega, e2, List.map_cons, List.append_assoc]; rfl⟩
        · obtain ⟨t2, e2⟩ := ep_loop (q := q) (a := a) (b := b) (s := s) m (i + 1) j (l ++ [wD .add]) t1 (by omega) (by omega) (by omega) (by simp; omega)
          exact ⟨t2, by rw [show ((i : Int) + 1) = ((i + 1 : Nat) : Int) by omega, e2, List.map_cons, List.append_assoc]; rfl⟩
def scr (q : Co) (a b : List Int) : List W := (pth q a.reverse b.reverse).reverse
theorem scr_sc (q : Co) (a b : List Int) : Sc q a b (scr q a b) (ed q a b) := by
  have := (pth_sc q a.reverse b.reverse).rev
  rwa [List.reverse_reverse, List.reverse_reverse] at this
theorem paper {a b : List Int} {q : Co} (ha : a.length ≤ 8) (hb : b.length ≤ 8) (hq : q.Ok) (s : Src) : F_edit_paper [wI a, wI b, cQ q] s = some (.tup [.int (ed q a b), .tupk ((scr q a b).map wD), tbl q a b], s) := by
  unfold F_edit_paper
  refine run_rt ?_
  show g_edit_paper [.rd (wI a), .rd (wI b), .rd (cQ q), .no, .no, .no, .no, .no, .no, .no, .no] s = _
  unfold g_edit_paper
  rw [seq_nx (δ1 := [.rd (wI a), .rd (wI b), .rd (cQ q), .rd (tbl q a b), .no, .no, .no, .no, .no, .no, .no]) (s1 := s) (by simp [table ha hb hq])]
  rw [seq_nx (δ1 := [.rd (wI a), .rd (wI b), .rd (cQ q), .rd (tbl q a b), .rd (.int q.dr), .rd (.int q.ad), .rd (.int q.ch), .no, .no, .no, .no]) (s1 := s) (by simp)]
  rw [seq_nx (δ1 := [.rd (wI a), .rd (wI b), .rd (cQ q), .rd (tbl q a b), .rd (.int q.dr), .rd (.int q.ad), .rd (.int q.ch), .rd (.int a.length), .rd (.int b.length), .no, .no]) (s1 := s) (by simp)]
  rw [seq_nx (δ1 := ev q a b a.length b.length [] .no) (s1 := s) (by simp [ev])]
  obtain ⟨t, e⟩ := ep_loop (q := q) (a := a) (b := b) (s := s) 1000000 a.length b.length [] .no (by omega) (Nat.le_refl _) (Nat.le_refl _) (by simp; omega)
  rw [seq_nx e]
  have hp : P q a b a.length b.length = (scr q a b).reverse := by unfold P scr; rw [List.take_length, List.take_length, List.reverse_reverse]
  rw [hp]
  unfold ev
  simp [tbl_last, row_last, -ix_int]
/-! the script is right -/
theorem wW_eq (u v : W) : (wW u == wW v) = decide (u = v) := by cases u <;> cases v <;> decide +kernel
theorem wW_ok (u : W) : PyData.strOk (wW u) = true := by cases u <;> decide +kernel
theorem wD_eq (u v : W) : dEq (wD u) (wD v) = some (.bl (decide (u = v))) := by rw [wD, wD, eq_str (wW_ok u) (wW_ok v), wW_eq]
theorem in_keep (u : W) : dIn (wD u) (.tup [wD .keep, wD .change]) = some (.bl (decide (u = .keep ∨ u = .change))) := by
  cases u <;> rfl
@[simp] theorem lf_wD (w : W) : (wD w).lf = true := rfl
@[simp] theorem lf_wDs (w : List W) : lfs (w.map wD) = true := lfs_map (fun _ => rfl) w
def sv (q : Co) (a b : List Int) (sc : D) (i j : Nat) (k : Int) (w : Sl) : Ev := [.rd (wI a), .rd (wI b), .rd (cQ q), .rd sc, .rd (.int q.dr), .rd (.int q.ad), .rd (.int q.ch), .rd (.int i), .rd (.int j), .rd (.int k), w]
section
variable {q : Co} {a b : List Int} {sc : D} {i j : Nat} {x y k : Int} {s : Src}
theorem sc_both {u : W} (hu : u = .keep ∨ u = .change) (h : a[i]? = some x) (h2 : b[j]? = some y) (he : u = .keep → x = y) :
    b_script_cost_1 (sv q a b sc i j k (.rd (wD u))) s = some (.nx (sv q a b sc (i + 1) (j + 1) (k + if u = .change then q.ch else 0) (.rd (wD u))), s) := by
  have hi : i < a.length := (List.getElem?_eq_some_iff.mp h).1
  have hj : j < b.length := (List.getElem?_eq_some_iff.mp h2).1
  unfold b_script_cost_1 sv
  simp only [show D.str "keep" = wD .keep from rfl, show D.str "change" = wD .change from rfl, show D.str "drop" = wD .drop from rfl, show D.str "add" = wD .add from rfl]
  rcases hu with rfl | rfl
  · have := he rfl
    subst this
    simp [in_keep, wD_eq, wI_at h, wI_at h2, -ix_int, show ¬ (a.length : Int) ≤ i by omega, show ¬ (b.length : Int) ≤ j by omega]
  · simp [in_keep, wD_eq, wI_at h, wI_at h2, -ix_int, show ¬ (a.length : Int) ≤ i by omega, show ¬ (b.length : Int) ≤ j by omega]
theorem sc_drop : b_script_cost_1 (sv q a b sc i j k (.rd (wD .drop))) s = some (.nx (sv q a b sc (i + 1) j (k + q.dr) (.rd (wD .drop))), s) := by
  unfold b_script_cost_1 sv
  simp only [show D.str "keep" = wD .keep from rfl, show D.str "change" = wD .change from rfl, show D.str "drop" = wD .drop from rfl, show D.str "add" = wD .add from rfl]
  simp [in_keep, wD_eq]
theorem sc_add : b_script_cost_1 (sv q a b sc i j k (.rd (wD .add))) s = some (.nx (sv q a b sc i (j + 1) (k + q.ad) (.rd (wD .add))), s) := by
  unfold b_script_cost_1 sv
  simp only [show D.str "keep" = wD .keep from rfl, show D.str "change" = wD .change from rfl, show D.str "drop" = wD .drop from rfl, show D.str "add" = wD .add from rfl]
  simp [in_keep, wD_eq]
theorem fLp_step {u : W} {w : List W} {t : Sl} {i' j' : Nat} {k' : Int} {r : Option (Out × Src)} (h : b_script_cost_1 (sv q a b sc i j k (.rd (wD u))) s = some (.nx (sv q a b sc i' j' k' (.rd (wD u))), s)) (h2 : fLp (gN 10) b_script_cost_1 (w.map wD) (sv q a b sc i' j' k' (.rd (wD u))) s = r) :
    fLp (gN 10) b_script_cost_1 ((u :: w).map wD) (sv q a b sc i j k t) s = r := by
  rw [List.map_cons, fLp, bd_ap, lf_wD, if_pos rfl]
  show Option.bind (some (sv q a b sc i j k (.rd (wD u)), s)) _ = r
  rw [Option.bind_some, bd_ap]
  show Option.bind (b_script_cost_1 (sv q a b sc i j k (.rd (wD u))) s) _ = r
  rw [h]
  exact h2
end
theorem sc_loop {q : Co} {a b : List Int} {sc : D} {s : Src} {a1 b1 : List Int} {w : List W} {c : Int} (h : Sc q a1 b1 w c) : ∀ (a0 b0 : List Int) (k : Int) (t : Sl), a = a0 ++ a1 → b = b0 ++ b1 →
    ∃ t', fLp (gN 10) b_script_cost_1 (w.map wD) (sv q a b sc a0.length b0.length k t) s = some (.nx (sv q a b sc a.length b.length (k + c) t'), s) := by
  induction h with
  | nil =>
    intro a0 b0 k t ha hb
    rw [List.append_nil] at ha hb
    subst ha hb
    exact ⟨t, by rw [Int.add_zero]; rfl⟩
  | @keep x a1 b1 w c _ ih =>
    intro a0 b0 k t ha hb
    obtain ⟨t', e⟩ := ih (a0 ++ [x]) (b0 ++ [x]) k (.rd (wD .keep)) (by simp [ha]) (by simp [hb])
    rw [List.length_append, List.length_append] at e
    have b1 := sc_both (q := q) (a := a) (b := b) (sc := sc) (k := k) (s := s) (.inl rfl) (i := a0.length) (j := b0.length) (x := x) (y := x) (by simp [ha]) (by simp [hb]) (fun _ => rfl)
    rw [if_neg (by intro z; cases z), Int.add_zero] at b1
    exact ⟨t', fLp_step b1 e⟩
  | @chg x y a1 b1 w c _ ih =>
    intro a0 b0 k t ha hb
    obtain ⟨t', e⟩ := ih (a0 ++ [x]) (b0 ++ [y]) (k + q.ch) (.rd (wD .change)) (by simp [ha]) (by simp [hb])
    rw [List.length_append, List.length_append, show k + q.ch + c = k + (c + q.ch) by omega] at e
    have b1 := sc_both (q := q) (a := a) (b := b) (sc := sc) (k := k) (s := s) (.inr rfl) (i := a0.length) (j := b0.length) (x := x) (y := y) (by simp [ha]) (by simp [hb]) (fun z => nomatch z)
    rw [if_pos rfl] at b1
    exact ⟨t', fLp_step b1 e⟩
  | @drop x a1 b1 w c _ ih =>
    intro a0 b0 k t ha hb
    obtain ⟨t', e⟩ := ih (a0 ++ [x]) b0 (k + q.dr) (.rd (wD .drop)) (by simp [ha]) hb
    rw [List.length_append, show k + q.dr + c = k + (c + q.dr) by omega] at e
    exact ⟨t', fLp_step sc_drop e⟩
  | @add y a1 b1 w c _ ih =>
    intro a0 b0 k t ha hb
    obtain ⟨t', e⟩ := ih a0 (b0 ++ [y]) (k + q.ad) (.rd (wD .add)) ha (by simp [hb])
    rw [List.length_append, show k + q.ad + c = k + (c + q.ad) by omega] at e
    exact ⟨t', fLp_step sc_add e⟩
theorem cost {q : Co} {a b : List Int} {w : List W} {c : Int} (h : Sc q a b w c) (s : Src) : F_script_cost [wI a, wI b, cQ q, .tup (w.map wD)] s = some (.int c, s) := by
  unfold F_script_cost
  refine run_rt ?_
  show g_script_cost [.rd (wI a), .rd (wI b), .rd (cQ q), .rd (.tup (w.map wD)), .no, .no, .no, .no, .no, .no, .no] s = _
  unfold g_script_cost
  rw [seq_nx (δ1 := [.rd (wI a), .rd (wI b), .rd (cQ q), .rd (.tup (w.map wD)), .rd (.int q.dr), .rd (.int q.ad), .rd (.int q.ch), .no, .no, .no, .no]) (s1 := s) (by simp)]
  rw [seq_nx (δ1 := sv q a b (.tup (w.map wD)) ([] : List Int).length ([] : List Int).length 0 .no) (s1 := s) (by simp [sv])]
  obtain ⟨t, e⟩ := sc_loop (sc := .tup (w.map wD)) (s := s) h [] [] 0 .no rfl rfl
  rw [seq_nx (δ1 := sv q a b (.tup (w.map wD)) a.length b.length (0 + c) t) (s1 := s) (by
    simp only [sFor_ap, iSeqT_ap, eVar_ap, lfT_tup, lf_wDs, sv, gt_succ, gt_zero, sl_rd, of_some, Option.bind_some, if_true]
    exact e)]
  rw [Int.zero_add]
  have e2 : dEq (.tup [.int a.length, .int b.length]) (.tup [.int a.length, .int b.length]) = some (.bl true) := by
    have := eq_ints [a.length, b.length] [a.length, b.length]
    simpa using this
  simp [sv, e2]
/-! the table is a table, and grows -/
@[simp] theorem len_tbl (q : Co) (a b : List Int) : bLen [tbl q a b] = some (.int ((a.length : Int) + 1)) := by simp [tbl]
@[simp] theorem isi_tbl (T : String) (q : Co) (a b : List Int) : isiD T (tbl q a b) = some (.bl (isTy "tuple" T)) := rfl
theorem lfT_tbl (q : Co) (a b : List Int) : lfT (tbl q a b) = some ((List.range (a.length + 1)).map fun i => .tup (rowI q a b i (b.length + 1))) := by
  have h := lf_tbl q a b
  unfold tbl at h ⊢
  rw [lf_tup] at h
  rw [lfT_tup, if_pos h]
theorem it_row {q : Co} {a b : List Int} {C t : Sl} {i : Nat} (hb : b.length ≤ 8) (s : Src) : b_is_table_2 [C, .rd (.int ((a.length : Int) + 1)), .rd (.int ((b.length : Int) + 1)), .rd (.tup (rowI q a b i (b.length + 1))), t] s =
    some (.nx [C, .rd (.int ((a.length : Int) + 1)), .rd (.int ((b.length : Int) + 1)), .rd (.tup (rowI q a b i (b.length + 1))), t], s) := by
  have h1 : c_is_table_1 [C, .rd (.int ((a.length : Int) + 1)), .rd (.int ((b.length : Int) + 1)), .rd (.tup (rowI q a b i (b.length + 1))), t] s = some (.lst ((List.range (b.length + 1)).map fun _ => .bl false), s) := by
    unfold c_is_table_1
    exact lc_eq (s1 := s) (ds := rowI q a b i (b.length + 1)) (by simp) (by simp only [rowI, List.length_map, List.length_range]; omega) (cLp_map (α := Nat) (fun j => D.int (cel q a b i j)) (fun _ => .bl false) _ fun j _ => ⟨_, rfl, rfl, by simp⟩)
  have h2 : bLen [.tup (rowI q a b i (b.length + 1))] = some (.int ((b.length : Int) + 1)) := by simp [rowI]
  unfold b_is_table_2
  simp [h1, h2, -len_tup, boolL_map (fun _ : Nat => false)]
theorem istab {q : Co} {a b : List Int} (hb : b.length ≤ 8) (s : Src) : F_is_table [tbl q a b, .int ((a.length : Int) + 1), .int ((b.length : Int) + 1)] s = some (.bl true, s) := by
  unfold F_is_table
  refine run_rt ?_
  show g_is_table [.rd (tbl q a b), .rd (.int ((a.length : Int) + 1)), .rd (.int ((b.length : Int) + 1)), .no, .no] s = _
  unfold g_is_table
  rw [seq_nx (δ1 := [.rd (tbl q a b), .rd (.int ((a.length : Int) + 1)), .rd (.int ((b.length : Int) + 1)), .no, .no]) (s1 := s) (by simp)]
  obtain ⟨δ', h1, t, h2⟩ := fLp_inv (tg := gN 3) (body := b_is_table_2) (s := s)
    (fun k δ => ∃ t : Sl, δ = [.rd (tbl q a b), .rd (.int ((a.length : Int) + 1)), .rd (.int ((b.length : Int) + 1)), t, .no])
    ((List.range (a.length + 1)).map fun i => .tup (rowI q a b i (b.length + 1))) 0 _ ⟨.no, rfl⟩ (fun i d δ hd hI => by
      obtain ⟨t, rfl⟩ := hI
      rw [List.getElem?_map] at hd
      obtain ⟨i', hi, rfl⟩ := Option.map_eq_some_iff.mp hd
      exact ⟨by rw [lf_tup]; exact lfs_map (fun _ => rfl) _, _, _, rfl, it_row hb s, _, rfl⟩)
  subst h2
  rw [seq_nx (δ1 := _) (s1 := s) (h := by
    simp only [sFor_ap, iSeqT_ap, eVar_ap, gt_zero, sl_rd, of_some, Option.bind_some, lfT_tbl]
    exact h1)]
  simp
def wv (q : Co) (a b : List Int) (i : Nat) (j n w : Sl) : Ev := [.rd (wI a), .rd (wI b), .rd (cQ q), .rd (tbl q a b), .rd (.int q.dr), .rd (.int q.ad), .rd (.int q.ch), .rd (.int i), j, n, w]
theorem gr1 {q : Co} {a b : List Int} {i j : Nat} {n w : Sl} (hi : i ≤ a.length) (hj : j ≤ b.length) (s : Src) : ∃ n' w', b_grows_1 (wv q a b i (.rd (.int j)) n w) s = some (.nx (wv q a b i (.rd (.int j)) n' w'), s) := by
  have hrow := row_at2 q a b i hj
  unfold b_grows_1
  rw [seq_nx (δ1 := wv q a b i (.rd (.int j)) (.rd (.int (cel q a b i j))) w) (s1 := s) (by simp [wv, tbl_at q a b hi, hrow, -ix_int])]
  match i, j, hi, hj with
  | 0, 0, _, _ =>
    refine ⟨.rd (.int (cel q a b 0 0)), w, ?_⟩
    rw [seq_nx (δ1 := wv q a b 0 (.rd (.int (0 : Nat))) (.rd (.int (cel q a b 0 0))) w) (s1 := s) (by simp [wv])]
    rw [seq_nx (δ1 := wv q a b 0 (.rd (.int (0 : Nat))) (.rd (.int (cel q a b 0 0))) w) (s1 := s) (by simp [wv])]
    simp [wv]
  | i + 1, 0, hi, _ =>
    obtain ⟨x, hx⟩ : ∃ x, a[i]? = some x := ⟨_, List.getElem?_eq_getElem hi⟩
    have c := cel_s0 q (b := b) hx
    refine ⟨.rd (.int (cel q a b (i + 1) 0)), w, ?_⟩
    rw [seq_nx (δ1 := wv q a b (i + 1) (.rd (.int (0 : Nat))) (.rd (.int (cel q a b (i + 1) 0))) w) (s1 := s) (by
      simp [wv, tbl_at q a b (show i ≤ a.length by omega), row_at0, -ix_int, show (0 : Int) < (i : Int) + 1 by omega, show (i : Int) + 1 - 1 = i by omega, c])]
    rw [seq_nx (δ1 := wv q a b (i + 1) (.rd (.int (0 : Nat))) (.rd (.int (cel q a b (i + 1) 0))) w) (s1 := s) (by simp [wv])]
    simp [wv]
  | 0, j + 1, _, hj =>
    obtain ⟨y, hy⟩ : ∃ y, b[j]? = some y := ⟨_, List.getElem?_eq_getElem hj⟩
    have c : cel q a b 0 (j + 1) = cel q a b 0 j + q.ad := by
      rw [cel_0 q a b hj, cel_0 q a b (show j ≤ b.length by omega)]
      rw [Int.natCast_add, Int.add_mul]; simp
    refine ⟨.rd (.int (cel q a b 0 (j + 1))), w, ?_⟩
    rw [seq_nx (δ1 := wv q a b 0 (.rd (.int (j + 1 : Nat))) (.rd (.int (cel q a b 0 (j + 1)))) w) (s1 := s) (by simp [wv])]
    rw [seq_nx (δ1 := wv q a b 0 (.rd (.int (j + 1 : Nat))) (.rd (.int (cel q a b 0 (j + 1)))) w) (s1 := s) (by
      simp [wv, tbl_at0 q a b, row_at2 q a b 0 (show j ≤ b.length by omega), -ix_int, show (0 : Int) < (j : Int) + 1 by omega, show (j : Int) + 1 - 1 = j by omega, c])]
    simp [wv]
  | i + 1, j + 1, hi, hj =>
    obtain ⟨x, hx⟩ : ∃ x, a[i]? = some x := ⟨_, List.getElem?_eq_getElem hi⟩
    obtain ⟨y, hy⟩ : ∃ y, b[j]? = some y := ⟨_, List.getElem?_eq_getElem hj⟩
    have c := cel_ss q hx hy
    obtain ⟨c1, c2, c3, _⟩ := m3_le (cel q a b i (j + 1) + q.dr) (cel q a b (i + 1) j + q.ad) (cel q a b i j + gap q x y)
    rw [← c] at c1 c2 c3
    refine ⟨.rd (.int (cel q a b (i + 1) (j + 1))), .rd (.int (gap q x y)), ?_⟩
    have p1 : (0 : Int) < (i : Int) + 1 := by omega
    have p2 : (0 : Int) < (j : Int) + 1 := by omega
    rw [seq_nx (δ1 := wv q a b (i + 1) (.rd (.int (j + 1 : Nat))) (.rd (.int (cel q a b (i + 1) (j + 1)))) w) (s1 := s) (by
      simp [wv, tbl_at q a b (show i ≤ a.length by omega), row_at1 q a b i hj, -ix_int, p1, show (i : Int) + 1 - 1 = i by omega, Int.not_lt.mpr c1])]
    rw [seq_nx (δ1 := wv q a b (i + 1) (.rd (.int (j + 1 : Nat))) (.rd (.int (cel q a b (i + 1) (j + 1)))) w) (s1 := s) (by
      simp [wv, tbl_at1 q a b hi, row_at2 q a b (i + 1) (show j ≤ b.length by omega), -ix_int, p2, show (j : Int) + 1 - 1 = j by omega, Int.not_lt.mpr c2])]
    have p3 : (sSet 10 (eIf (bOf (e2 dEq (e2 dIx (eVar 0) (e2 dSub (eVar 7) (eC (.int 1)))) (e2 dIx (eVar 1) (e2 dSub (eVar 8) (eC (.int 1)))))) (eC (.int 0)) (eVar 6))) (wv q a b (i + 1) (.rd (.int (j + 1 : Nat))) (.rd (.int (cel q a b (i + 1) (j + 1)))) w) s =
        some (.nx (wv q a b (i + 1) (.rd (.int (j + 1 : Nat))) (.rd (.int (cel q a b (i + 1) (j + 1)))) (.rd (.int (gap q x y)))), s) := by
      by_cases e : x = y <;> simp [wv, wI_at hx, wI_at hy, -ix_int, show (i : Int) + 1 - 1 = i by omega, show (j : Int) + 1 - 1 = j by omega, gap, e]
    rw [sIf_ap, show (bAnd (bOf (e2 dGt (eVar 7) (eC (.int 0)))) (bOf (e2 dGt (eVar 8) (eC (.int 0))))) (wv q a b (i + 1) (.rd (.int (j + 1 : Nat))) (.rd (.int (cel q a b (i + 1) (j + 1)))) w) s = some (true, s) by simp [wv, p1, p2]]
    rw [Option.bind_some, if_pos rfl, seq_nx p3]
    simp [wv, tbl_at q a b (show i ≤ a.length by omega), row_at2 q a b i (show j ≤ b.length by omega), -ix_int, show (i : Int) + 1 - 1 = i by omega, show (j : Int) + 1 - 1 = j by omega, Int.not_lt.mpr c3]
theorem gr2 {q : Co} {a b : List Int} {i : Nat} {j n w : Sl} (hi : i ≤ a.length) (hb : b.length ≤ 8) (s : Src) : ∃ j' n' w', b_grows_2 (wv q a b i j n w) s = some (.nx (wv q a b i j' n' w'), s) := by
  obtain ⟨δ', h1, j', n', w', h2⟩ := fLp_inv (tg := gN 8) (body := b_grows_1) (s := s)
    (fun k δ => ∃ j n w : Sl, δ = wv q a b i j n w) (rgs (b.length + 1)) 0 _ ⟨j, n, w, rfl⟩ (fun k d δ hd hI => by
      obtain ⟨j, n, w, rfl⟩ := hI
      obtain ⟨hk, rfl⟩ := rgs_inv hd
      obtain ⟨n', w', e⟩ := gr1 (q := q) (n := n) (w := w) hi (show k ≤ b.length by omega) s
      exact ⟨rfl, _, _, rfl, e, _, _, _, rfl⟩)
  subst h2
  refine ⟨j', n', w', ?_⟩
  unfold b_grows_2
  have e : rg1 [.int ((b.length : Int) + 1)] = some (rgs (b.length + 1)) := rg1_s (by omega)
  have e2 : iOf rg1 (eAs (e2 dAdd (eCall bLen (eAs (eVar 1) eAs0)) (eC (.int 1))) eAs0) (wv q a b i j n w) s = some (rgs (b.length + 1), s) := by simp [wv, e]
  rw [sFor_ap, e2]
  exact h1
theorem grow {q : Co} {a b : List Int} (ha : a.length ≤ 8) (hb : b.length ≤ 8) (s : Src) : F_grows [wI a, wI b, cQ q, tbl q a b] s = some (.bl true, s) := by
  unfold F_grows
  refine run_rt ?_
  show g_grows [.rd (wI a), .rd (wI b), .rd (cQ q), .rd (tbl q a b), .no, .no, .no, .no, .no, .no, .no] s = _
  unfold g_grows
  rw [seq_nx (δ1 := [.rd (wI a), .rd (wI b), .rd (cQ q), .rd (tbl q a b), .rd (.int q.dr), .rd (.int q.ad), .rd (.int q.ch), .no, .no, .no, .no]) (s1 := s) (by simp)]
  obtain ⟨δ', h1, t, j', n', w', h2⟩ := fLp_inv (tg := gN 7) (body := b_grows_2) (s := s)
    (fun k δ => ∃ t j n w : Sl, δ = [.rd (wI a), .rd (wI b), .rd (cQ q), .rd (tbl q a b), .rd (.int q.dr), .rd (.int q.ad), .rd (.int q.ch), t, j, n, w]) (rgs (a.length + 1)) 0 _ ⟨.no, .no, .no, .no, rfl⟩ (fun k d δ hd hI => by
      obtain ⟨t, j, n, w, rfl⟩ := hI
      obtain ⟨hk, rfl⟩ := rgs_inv hd
      obtain ⟨j', n', w', e⟩ := gr2 (q := q) (j := j) (n := n) (w := w) (show k ≤ a.length by omega) hb s
      exact ⟨rfl, _, _, rfl, e, _, _, _, _, rfl⟩)
  subst h2
  have e : rg1 [.int ((a.length : Int) + 1)] = some (rgs (a.length + 1)) := rg1_s (by omega)
  have e2 : iOf rg1 (eAs (e2 dAdd (eCall bLen (eAs (eVar 0) eAs0)) (eC (.int 1))) eAs0) [.rd (wI a), .rd (wI b), .rd (cQ q), .rd (tbl q a b), .rd (.int q.dr), .rd (.int q.ad), .rd (.int q.ch), .no, .no, .no, .no] s = some (rgs (a.length + 1), s) := by simp [e]
  rw [seq_nx (δ1 := _) (s1 := s) (h := by
    rw [sFor_ap, e2]
    exact h1)]
  simp
theorem takes {q : Co} {a b : List Int} {w : List W} (ha : a.length ≤ 8) (hb : b.length ≤ 8) (hq : q.Ok) (hw : Sc q a b w (ed q a b)) (hl : w.length ≤ 1000) (s : Src) :
    F_takes_edit [wI a, wI b, cQ q, .tup [.int (ed q a b), .tup (w.map wD), tbl q a b]] s = some (.bl true, s) := by
  unfold F_takes_edit
  refine run_rt ?_
  show g_takes_edit [.rd (wI a), .rd (wI b), .rd (cQ q), .rd (.tup [.int (ed q a b), .tup (w.map wD), tbl q a b]), .no, .no] s = _
  unfold g_takes_edit
  rw [seq_nx (δ1 := [.rd (wI a), .rd (wI b), .rd (cQ q), .rd (.tup [.int (ed q a b), .tup (w.map wD), tbl q a b]), .no, .no]) (s1 := s) (by simp [chk ha hb hq])]
  rw [seq_nx (δ1 := [.rd (wI a), .rd (wI b), .rd (cQ q), .rd (.tup [.int (ed q a b), .tup (w.map wD), tbl q a b]), .no, .no]) (s1 := s) (by simp)]
  have h1 : c_takes_edit_1 [.rd (wI a), .rd (wI b), .rd (cQ q), .rd (.tup [.int (ed q a b), .tup (w.map wD), tbl q a b]), .no, .no] s = some (.lst (w.map fun _ => .bl false), s) := by
    unfold c_takes_edit_1
    exact lc_eq (s1 := s) (ds := w.map wD) (by simp) (by rw [List.length_map]; omega) (cLp_map (α := W) wD (fun _ => .bl false) _ fun j _ => ⟨_, rfl, rfl, by simp [wD]⟩)
  rw [seq_nx (δ1 := [.rd (wI a), .rd (wI b), .rd (cQ q), .rd (.tup [.int (ed q a b), .tup (w.map wD), tbl q a b]), .no, .no]) (s1 := s) (by simp [h1, cost hw, boolL_map (fun _ : W => false)])]
  rw [seq_nx (δ1 := [.rd (wI a), .rd (wI b), .rd (cQ q), .rd (.tup [.int (ed q a b), .tup (w.map wD), tbl q a b]), .rd (tbl q a b), .no]) (s1 := s) (by simp)]
  have c0 : dIx (tbl q a b) (.int 0) = some (.tup (rowI q a b 0 (b.length + 1))) := tbl_at0 q a b
  have c1 : dIx (.tup (rowI q a b 0 (b.length + 1))) (.int 0) = some (.int 0) := by rw [row_at0, cel_00]
  have c2 : dIx (.tup [.int (ed q a b), .tup (w.map wD), tbl q a b]) (.int 0) = some (.int (ed q a b)) := rfl
  rw [seq_nx (δ1 := [.rd (wI a), .rd (wI b), .rd (cQ q), .rd (.tup [.int (ed q a b), .tup (w.map wD), tbl q a b]), .rd (tbl q a b), .no]) (s1 := s) (by
    simp [istab hb, c0, c1, c2, tbl_last, row_last, -ix_int])]
  simp [grow ha hb]
end K47
set_option Elab.async false
set_option linter.all false
set_option maxRecDepth 100000
set_option maxHeartbeats 400000
/-! K47l: the law over data. -/
namespace K47
open PySem PySem.Spec PyProof.Rows L2 DL Ed
abbrev draw (m : Int) : FE := eFn (fun ds => if ds.length = 2 then F__law_take ds else M.no) (eAs (eVar 1) (eAs (eC (.int m)) eAs0))
theorem draw_ap {δ : Ev} {m : Int} (h : gt δ 1 = some .src) (hm : 0 < m ∧ m ≤ 1000000) (s : Src) : draw m δ s = some (.int (take s m).1, (take s m).2) := by
  simp [draw, h, draw_eq hm]
/-- comprehensions that may draw -/
theorem cLp_ex {vs : List Nat} {g : D → Ev → Option Ev} {te : FE} {δ : Ev} {α : Type} (en : α → D) (Q : α → Prop) : ∀ (ds : List D) (s : Src), (∀ d ∈ ds, ∀ s, ∃ δ1 x s', g d (wipeE δ vs) = some δ1 ∧ te δ1 s = some (en x, s') ∧ Q x) →
    ∃ (xs : List α) (s' : Src), cLp vs g bYes te δ ds s = some (xs.map en, s') ∧ xs.length = ds.length ∧ ∀ x ∈ xs, Q x
  | [], s, _ => ⟨[], s, rfl, rfl, fun _ h => nomatch h⟩
  | d :: ds, s, h => by
    obtain ⟨δ1, x, s1, h1, h2, h3⟩ := h d List.mem_cons_self s
    obtain ⟨xs, s2, h4, h5, h6⟩ := cLp_ex en Q ds s1 fun e he => h e (List.mem_cons_of_mem _ he)
    refine ⟨x :: xs, s2, ?_, by simp [h5], fun y hy => ?_⟩
    · rw [cLp]
      simp only [bd_ap, h1, of_some, Option.bind_some, bYes_ap, if_true, h2, h4, ret_ap, List.map_cons]
    · rcases List.mem_cons.mp hy with rfl | hy
      · exact h3
      · exact h6 y hy
theorem word {r : List Sl} {A : Sl} (hr : r.length = 20) (s : Src) : ∃ (w : List Int) (s' : Src), c_law_1 (A :: .rd .src :: r) s = some (.lst (w.map D.int), s') ∧ w.length ≤ 4 := by
  have hd := draw_ap (δ := A :: .rd .src :: r) rfl (m := 5) (by omega) s
  have lo := take_lo s (m := 5) (by omega)
  have hi := take_hi s (m := 5) (by omega)
  obtain ⟨n, hn⟩ : ∃ n : Nat, (take s 5).1 = (n : Int) := ⟨_, (Int.toNat_of_nonneg lo).symm⟩
  rw [hn] at hd lo hi
  obtain ⟨w, s2, e, hl, _⟩ := cLp_ex (vs := [20]) (g := gN 20) (te := draw 3) (δ := A :: .rd .src :: r) D.int (fun _ => True) (rgs n) (take s 5).2 (fun d hd s => by
    refine ⟨_, (take s 3).1, (take s 3).2, rfl, ?_, trivial⟩
    exact draw_ap rfl (by omega) s)
  refine ⟨w, s2, ?_, by rw [hl, rgs_len]; omega⟩
  unfold c_law_1
  refine lc_eq (ds := rgs n) (s1 := (take s 5).2) ?_ (by rw [rgs_len]; omega) e
  have e5 : rg1 [.int (n : Nat)] = some (rgs n) := rg1_n (by omega)
  rw [iOf_ap, eAs_ap]
  show Option.bind (Option.bind (draw 5 (A :: .rd .src :: r) s) _) _ = _
  rw [hd]
  simp [e5]
theorem words4 (s : Src) : ∃ (a b c d : List Int) (s' : Src), c_law_2 (.no :: .rd .src :: List.replicate 20 .no) s = some (.lst [wI a, wI b, wI c, wI d], s') ∧ a.length ≤ 4 ∧ b.length ≤ 4 ∧ c.length ≤ 4 ∧ d.length ≤ 4 := by
  obtain ⟨ws, s', e, hl, hw⟩ := cLp_ex (vs := [19]) (g := gN 19) (te := eLf (eCall bTup (eAs c_law_1 eAs0))) (δ := .no :: .rd .src :: List.replicate 20 .no) wI (fun w => w.length ≤ 4) (rgs 4) s (fun d hd s => by
    obtain ⟨w, s', h1, h2⟩ := word (A := .no) (r := (List.replicate 20 .no).set 17 (.rd d)) (by simp) s
    refine ⟨_, w, s', rfl, ?_, h2⟩
    have h3 : c_law_1 ((wipeE (.no :: .rd .src :: List.replicate 20 .no) [19]).set 19 (.rd d)) s = some (.lst (w.map D.int), s') := h1
    rw [eLf_ap, eCall_ap, eAs_ap, h3]
    simp [wI])
  rw [rgs_len] at hl
  match ws, hl with
  | [a, b, c, d], _ =>
    refine ⟨a, b, c, d, s', ?_, hw a (by simp), hw b (by simp), hw c (by simp), hw d (by simp)⟩
    unfold c_law_2
    refine lc_eq (ds := rgs 4) (s1 := s) ?_ (by rw [rgs_len]; omega) e
    have e5 : rg1 [.int 4] = some (rgs 4) := rg1_n (n := 4) (by omega)
    simp [e5]
theorem parts {δ : Ev} {a : List Int} (h1 : gt δ 1 = some .src) (h3 : gt δ 3 = some (wI a)) (hδ : δ.length = 22) : ∀ (n i : Nat) (s : Src), i + n = a.length →
    ∃ (z : List Int) (s' : Src), cLp [20] (gN 20) (bOf (e2 dEq (draw 2) (eC (.int 0)))) (e2 dIx (eVar 3) (eVar 20)) δ (rngD (i : Int) n) s = some (z.map D.int, s') ∧ z.Sublist (a.drop i)
  | 0, i, s, _ => ⟨[], s, rfl, List.nil_sublist _⟩
  | n + 1, i, s, hn => by
    obtain ⟨x, hx⟩ : ∃ x, a[i]? = some x := ⟨_, List.getElem?_eq_getElem (by omega)⟩
    obtain ⟨z, s', e, hz⟩ := parts h1 h3 hδ n (i + 1) (take s 2).2 (by omega)
    have hd : a.drop i = x :: a.drop (i + 1) := by
      have hlt : i < a.length := by omega
      rw [List.drop_eq_getElem_cons hlt]
      rw [List.getElem?_eq_getElem hlt] at hx
      cases hx
      rfl
    have g1 : gt ((δ.set 20 .no).set 20 (.rd (.int (i : Nat)))) 1 = some .src := by
      unfold gt at h1 ⊢
      rw [List.getElem?_set_ne (by decide), List.getElem?_set_ne (by decide)]; exact h1
    have g3 : gt ((δ.set 20 .no).set 20 (.rd (.int (i : Nat)))) 3 = some (wI a) := by
      unfold gt at h3 ⊢
      rw [List.getElem?_set_ne (by decide), List.getElem?_set_ne (by decide)]; exact h3
    have g20 : gt ((δ.set 20 .no).set 20 (.rd (.int (i : Nat)))) 20 = some (.int (i : Nat)) := by
      unfold gt
      rw [List.getElem?_set_self (by simp [hδ])]; rfl
    have ed := draw_ap g1 (m := 2) (by omega) s
    rw [rngD, show (i : Int) + 1 = ((i + 1 : Nat) : Int) by omega, cLp]
    have c1 : (bOf (e2 dEq (draw 2) (eC (.int 0)))) ((δ.set 20 .no).set 20 (.rd (.int (i : Nat)))) s = some (decide ((take s 2).1 = 0), (take s 2).2) := by
      rw [bOf_ap, e2_ap, ed]; simp
    simp only [bd_ap, gN_ap, wipe1, wipe0, of_some, Option.bind_some, c1]
    by_cases h0 : (take s 2).1 = 0
    · refine ⟨x :: z, s', ?_, ?_⟩
      · have c2 : (e2 dIx (eVar 3) (eVar 20)) ((δ.set 20 .no).set 20 (.rd (.int (i : Nat)))) (take s 2).2 = some (.int x, (take s 2).2) := by
          simp only [e2_ap, eVar_ap, g3, g20, of_some, Option.bind_some, wI_at hx]
        simp only [h0, decide_true, if_true, c2, e, Option.bind_some, ret_ap, List.map_cons, bd_ap]
      · rw [hd]; exact hz.cons₂ x
    · refine ⟨z, s', ?_, ?_⟩
      · simp only [h0, decide_false, Bool.false_eq_true, if_false, e]
      · rw [hd]; exact hz.cons x
/-! law -/
theorem add_wI (a b : List Int) (h : a.length + b.length ≤ 8) : dAdd (wI a) (wI b) = some (wI (a ++ b)) := by
  unfold wI
  rw [add_tup, if_pos (by rw [List.length_map, List.length_map]; omega), List.map_append]
theorem wI_1 : D.tup [.int 1] = wI [1] := rfl
theorem rev_ap {δ : Ev} {i : Nat} {w : List Int} (h : gt δ i = some (wI w)) (s : Src) : eRevT (eVar i) δ s = some (wI w.reverse, s) := by
  rw [eRevT_ap, eVar_ap, h, of_some, Option.bind_some]
  show some (D.tup (w.map D.int).reverse, s) = some (D.tup (w.reverse.map D.int), s)
  rw [List.map_reverse]
theorem eq_wI (a b : List Int) : dEq (wI a) (wI b) = some (.bl (decide (a = b))) := eq_ints a b
theorem back_eq (q : Co) : D.tup [.int q.ad, .int q.dr, .int q.ch] = cQ q.back := rfl
theorem dear_eq (q : Co) : D.tup [.int q.dr, .int q.ad, .int (q.dr + q.ad)] = cQ (dear q.dr q.ad) := rfl
theorem costs_ap {r : List Sl} {A : Sl} (s : Src) : ∃ (q : Co) (s' : Src), q.Ok ∧ eTup (eAs (e2 dAdd (eC (.int 1)) (draw 5)) (eAs (e2 dAdd (eC (.int 1)) (draw 5)) (eAs (e2 dAdd (eC (.int 1)) (draw 5)) eAs0))) (A :: .rd .src :: r) s = some (cQ q, s') := by
  have l1 := take_lo s (m := 5) (by omega)
  have l2 := take_lo (take s 5).2 (m := 5) (by omega)
  have l3 := take_lo (take (take s 5).2 5).2 (m := 5) (by omega)
  refine ⟨⟨1 + (take s 5).1, 1 + (take (take s 5).2 5).1, 1 + (take (take (take s 5).2 5).2 5).1⟩, (take (take (take s 5).2 5).2 5).2, ⟨by show 0 < 1 + _; omega, by show 0 < 1 + _; omega, by show 0 < 1 + _; omega⟩, ?_⟩
  have dr := fun t => draw_ap (δ := A :: .rd .src :: r) rfl (m := 5) (by omega) t
  simp only [eTup_ap, eAs_ap, e2_ap, eC_ap, dr, Option.bind_some, DL.add_int, of_some, eAs0_ap]
  rfl
theorem count_wD (w : List W) (u : W) : mCount (.tupk (w.map wD)) (wD u) = some (.int (w.count u : Nat)) := by
  have h : (w.map wD).all (dOk 8) = true := by
    rw [List.all_map]
    exact List.all_eq_true.mpr fun x _ => dOk_str 8 (wW_ok x)
  show (if ((w.map wD).all (dOk 8) && dOk 8 (wD u)) = true then some (D.int (((w.map wD).countP fun y => y.eqv (wD u) : Nat) : Int)) else none) = _
  rw [h, show dOk 8 (wD u) = true from dOk_str 8 (wW_ok u), if_pos (show (true && true) = true from rfl), List.countP_map]
  have e : ((fun y => y.eqv (wD u)) ∘ wD) = fun x : W => x == u := by
    funext x
    show (D.str (wW x)).eqv (.str (wW u)) = _
    rw [eqv_str, wW_eq]
    rfl
  rw [e]; rfl
theorem turn_wD (u : W) : dGet (.dct [("keep", "keep"), ("change", "change"), ("drop", "add"), ("add", "drop")]) (wD u) = some (wD u.turn) := by cases u <;> rfl
theorem min2_wI (x y : Int) : (if y < x then y else x) ≤ x ∧ (if y < x then y else x) ≤ y ∧ ((if y < x then y else x) = x ∨ (if y < x then y else x) = y) := by split <;> omega
set_option maxHeartbeats 4000000 in
theorem law_over {a b c d : List Int} (ha : a.length ≤ 4) (hb : b.length ≤ 4) (hc : c.length ≤ 4) (hd : d.length ≤ 4) (s1 : Src) {q : Co} {s2 : Src} (hq : q.Ok)
    (hcost : eTup (eAs (e2 dAdd (eC (.int 1)) (draw 5)) (eAs (e2 dAdd (eC (.int 1)) (draw 5)) (eAs (e2 dAdd (eC (.int 1)) (draw 5)) eAs0))) [.no, .rd .src, .ow (.lst [wI a, wI b, wI c, wI d]), .rd (wI a), .rd (wI b), .rd (wI c), .rd (wI d), .no, .no, .no, .no, .no, .no, .no, .no, .no, .no, .no, .no, .no, .no, .no] s1 = some (cQ q, s2)) (st : Src)
    (h0 : c_law_2 [.no, .rd .src, .no, .no, .no, .no, .no, .no, .no, .no, .no, .no, .no, .no, .no, .no, .no, .no, .no, .no, .no, .no] st = some (.lst [wI a, wI b, wI c, wI d], s1)) : ∃ st', g_law [.no, .rd .src, .no, .no, .no, .no, .no, .no, .no, .no, .no, .no, .no, .no, .no, .no, .no, .no, .no, .no, .no, .no] st = some (.rt (.bl true), st') := by
  have L : ∀ {x y : List Int} {p : Co}, x.length ≤ 8 → y.length ≤ 8 → p.Ok → F__law_least [wI x, wI y, cQ p] s2 = some (.int (ed p x y), s2) := fun h h2 h3 => least h h2 h3 s2
  obtain ⟨z, s3, c19', hz⟩ := parts (δ := [.no, .rd .src, .ow (.lst [wI a, wI b, wI c, wI d]), .rd (wI a), .rd (wI b), .rd (wI c), .rd (wI d), .rd (cQ q), .rd (cQ q.back), .rd (.int (ed q a b)), .rd (.int (ed q a b)), .rd (.tupk ((scr q a b).map wD)), .rd (tbl q a b), .ow (.lst [.int ((scr q a b).count .keep : Nat), .int ((scr q a b).count .change : Nat), .int ((scr q a b).count .drop : Nat), .int ((scr q a b).count .add : Nat)]), .rd (.dct [("keep", "keep"), ("change", "change"), ("drop", "add"), ("add", "drop")]), .rd (tbl q.back b a), .rd (cQ (dear q.dr q.ad)), .rd (.int (cm a b)), .no, .no, .no, .no]) (a := a) rfl rfl rfl a.length 0 s2 (by omega)
  rw [List.drop_zero] at hz
  have hzl : z.length ≤ a.length := hz.length_le
  have c19 : c_law_5 [.no, .rd .src, .ow (.lst [wI a, wI b, wI c, wI d]), .rd (wI a), .rd (wI b), .rd (wI c), .rd (wI d), .rd (cQ q), .rd (cQ q.back), .rd (.int (ed q a b)), .rd (.int (ed q a b)), .rd (.tupk ((scr q a b).map wD)), .rd (tbl q a b), .ow (.lst [.int ((scr q a b).count .keep : Nat), .int ((scr q a b).count .change : Nat), .int ((scr q a b).count .drop : Nat), .int ((scr q a b).count .add : Nat)]), .rd (.dct [("keep", "keep"), ("change", "change"), ("drop", "add"), ("add", "drop")]), .rd (tbl q.back b a), .rd (cQ (dear q.dr q.ad)), .rd (.int (cm a b)), .no, .no, .no, .no] s2 = some (.lst (z.map D.int), s3) := by
    unfold c_law_5
    have e5 : rg1 [.int (a.length : Nat)] = some (rgs a.length) := rg1_n (by omega)
    refine lc_eq (ds := rgs a.length) (s1 := s2) (by simp [e5]) (by rw [rgs_len]; omega) ?_
    have e6 : rgs a.length = rngD ((0 : Nat) : Int) a.length := by
      rw [rngD_map]
      exact List.map_congr_left fun i _ => by simp
    rw [e6]; exact c19'
  have kinds : c_law_3 [.no, .rd .src, .ow (.lst [wI a, wI b, wI c, wI d]), .rd (wI a), .rd (wI b), .rd (wI c), .rd (wI d), .rd (cQ q), .rd (cQ q.back), .rd (.int (ed q a b)), .rd (.int (ed q a b)), .rd (.tupk ((scr q a b).map wD)), .rd (tbl q a b), .no, .no, .no, .no, .no, .no, .no, .no, .no] s2 = some (.lst [.int ((scr q a b).count .keep : Nat), .int ((scr q a b).count .change : Nat), .int ((scr q a b).count .drop : Nat), .int ((scr q a b).count .add : Nat)], s2) := by
    unfold c_law_3
    exact lc_eq (ds := [W.keep, .change, .drop, .add].map wD) (s1 := s2) (by simp [wD, wW]) (by decide) (cLp_map (α := W) wD (fun u => .int ((scr q a b).count u : Nat)) [.keep, .change, .drop, .add] fun u _ => ⟨_, rfl, rfl, by simp [count_wD]⟩)
  have hsc := scr_sc q a b
  obtain ⟨k1, k2, k3⟩ := hsc.counts
  have turned : c_law_4 [.no, .rd .src, .ow (.lst [wI a, wI b, wI c, wI d]), .rd (wI a), .rd (wI b), .rd (wI c), .rd (wI d), .rd (cQ q), .rd (cQ q.back), .rd (.int (ed q a b)), .rd (.int (ed q a b)), .rd (.tupk ((scr q a b).map wD)), .rd (tbl q a b), .ow (.lst [.int ((scr q a b).count .keep : Nat), .int ((scr q a b).count .change : Nat), .int ((scr q a b).count .drop : Nat), .int ((scr q a b).count .add : Nat)]), .rd (.dct [("keep", "keep"), ("change", "change"), ("drop", "add"), ("add", "drop")]), .rd (tbl q.back b a), .no, .no, .no, .no, .no, .no] s2 = some (.lst (((scr q a b).map W.turn).map wD), s2) := by
    unfold c_law_4
    rw [List.map_map]
    have hl : (scr q a b).length ≤ 1000000 := by
      have := hsc.len
      omega
    exact lc_eq (ds := (scr q a b).map wD) (s1 := s2) (by simp) (by rw [List.length_map]; exact hl) (cLp_map (α := W) wD (fun u => wD u.turn) (scr q a b) fun u _ => ⟨_, rfl, rfl, by simp [turn_wD]⟩)
  obtain ⟨cl1, cl2⟩ := cm_le a b
  obtain ⟨LL, cl3, _⟩ := cm_spec a b
  unfold g_law
  rw [seq_nx (δ1 := [.no, .rd .src, .ow (.lst [wI a, wI b, wI c, wI d]), .no, .no, .no, .no, .no, .no, .no, .no, .no, .no, .no, .no, .no, .no, .no, .no, .no, .no, .no]) (s1 := s1) (by rw [sOwn_ap, h0]; rfl)]
  rw [seq_nx (δ1 := [.no, .rd .src, .ow (.lst [wI a, wI b, wI c, wI d]), .rd (wI a), .rd (wI b), .rd (wI c), .rd (wI d), .no, .no, .no, .no, .no, .no, .no, .no, .no, .no, .no, .no, .no, .no, .no]) (s1 := s1) (by simp)]
  rw [seq_nx (δ1 := [.no, .rd .src, .ow (.lst [wI a, wI b, wI c, wI d]), .rd (wI a), .rd (wI b), .rd (wI c), .rd (wI d), .rd (cQ q), .no, .no, .no, .no, .no, .no, .no, .no, .no, .no, .no, .no, .no, .no]) (s1 := s2) (by
    rw [sSet_ap]
    show Option.bind (eTup (eAs (e2 dAdd (eC (.int 1)) (draw 5)) (eAs (e2 dAdd (eC (.int 1)) (draw 5)) (eAs (e2 dAdd (eC (.int 1)) (draw 5)) eAs0))) [.no, .rd .src, .ow (.lst [wI a, wI b, wI c, wI d]), .rd (wI a), .rd (wI b), .rd (wI c), .rd (wI d), .no, .no, .no, .no, .no, .no, .no, .no, .no, .no, .no, .no, .no, .no, .no] s1) _ = _
    rw [hcost]; rfl)]
  rw [seq_nx (δ1 := [.no, .rd .src, .ow (.lst [wI a, wI b, wI c, wI d]), .rd (wI a), .rd (wI b), .rd (wI c), .rd (wI d), .rd (cQ q), .rd (cQ q.back), .no, .no, .no, .no, .no, .no, .no, .no, .no, .no, .no, .no, .no]) (s1 := s2) (by simp [back_eq])]
  rw [seq_nx (δ1 := [.no, .rd .src, .ow (.lst [wI a, wI b, wI c, wI d]), .rd (wI a), .rd (wI b), .rd (wI c), .rd (wI d), .rd (cQ q), .rd (cQ q.back), .rd (.int (ed q a b)), .no, .no, .no, .no, .no, .no, .no, .no, .no, .no, .no, .no]) (s1 := s2) (by simp [least (show a.length ≤ 8 by omega) (show b.length ≤ 8 by omega) hq])]
  rw [seq_nx (δ1 := [.no, .rd .src, .ow (.lst [wI a, wI b, wI c, wI d]), .rd (wI a), .rd (wI b), .rd (wI c), .rd (wI d), .rd (cQ q), .rd (cQ q.back), .rd (.int (ed q a b)), .no, .no, .no, .no, .no, .no, .no, .no, .no, .no, .no, .no]) (s1 := s2) (by
    have z1 := ed_zero hq a b
    have e6 : decide (ed q a b = 0) = decide (a = b) := by simp [z1]
    simp [-eRevT_ap, rev_ap (δ := [.no, .rd .src, .ow (.lst [wI a, wI b, wI c, wI d]), .rd (wI a), .rd (wI b), .rd (wI c), .rd (wI d), .rd (cQ q), .rd (cQ q.back), .rd (.int (ed q a b)), .no, .no, .no, .no, .no, .no, .no, .no, .no, .no, .no, .no]) (i := 3) (w := a) rfl, rev_ap (δ := [.no, .rd .src, .ow (.lst [wI a, wI b, wI c, wI d]), .rd (wI a), .rd (wI b), .rd (wI c), .rd (wI d), .rd (cQ q), .rd (cQ q.back), .rd (.int (ed q a b)), .no, .no, .no, .no, .no, .no, .no, .no, .no, .no, .no, .no]) (i := 4) (w := b) rfl, L (show a.reverse.length ≤ 8 by simp; omega) (show b.reverse.length ≤ 8 by simp; omega) hq, L (show b.length ≤ 8 by omega) (show a.length ≤ 8 by omega) hq.back, ed_rev hq, ed_swap hq, eq_wI, e6])]
  rw [seq_nx (δ1 := [.no, .rd .src, .ow (.lst [wI a, wI b, wI c, wI d]), .rd (wI a), .rd (wI b), .rd (wI c), .rd (wI d), .rd (cQ q), .rd (cQ q.back), .rd (.int (ed q a b)), .no, .no, .no, .no, .no, .no, .no, .no, .no, .no, .no, .no]) (s1 := s2) (by
    have h7 := ed_append hq a b c d
    simp [add_wI a c (by omega), add_wI b d (by omega), L (show (a ++ c).length ≤ 8 by simp; omega) (show (b ++ d).length ≤ 8 by simp; omega) hq, L (show c.length ≤ 8 by omega) (show d.length ≤ 8 by omega) hq, Int.not_lt.mpr h7])]
  rw [seq_nx (δ1 := [.no, .rd .src, .ow (.lst [wI a, wI b, wI c, wI d]), .rd (wI a), .rd (wI b), .rd (wI c), .rd (wI d), .rd (cQ q), .rd (cQ q.back), .rd (.int (ed q a b)), .no, .no, .no, .no, .no, .no, .no, .no, .no, .no, .no, .no]) (s1 := s2) (by
    have h8 := ed_tri hq a c b
    simp [L (show a.length ≤ 8 by omega) (show b.length ≤ 8 by omega) hq, L (show a.length ≤ 8 by omega) (show c.length ≤ 8 by omega) hq, L (show c.length ≤ 8 by omega) (show b.length ≤ 8 by omega) hq, Int.not_lt.mpr h8])]
  rw [seq_nx (δ1 := [.no, .rd .src, .ow (.lst [wI a, wI b, wI c, wI d]), .rd (wI a), .rd (wI b), .rd (wI c), .rd (wI d), .rd (cQ q), .rd (cQ q.back), .rd (.int (ed q a b)), .no, .no, .no, .no, .no, .no, .no, .no, .no, .no, .no, .no]) (s1 := s2) (by
    obtain ⟨h9, h10⟩ := ed_one hq a b 1
    have h11 := ed_front hq c a b
    have h12 : ¬ (if q.dr < q.ad then q.ad else q.dr) < (if ed q (a ++ [1]) b - ed q a b < 0 then -(ed q (a ++ [1]) b - ed q a b) else ed q (a ++ [1]) b - ed q a b) := by split <;> split <;> omega
    simp [wI_1, add_wI a [1] (by simp; omega), add_wI c a (by omega), add_wI c b (by omega), L (show (a ++ [1]).length ≤ 8 by simp; omega) (show b.length ≤ 8 by omega) hq, L (show (c ++ a).length ≤ 8 by simp; omega) (show (c ++ b).length ≤ 8 by simp; omega) hq, Int.not_lt.mpr h11, -Int.not_lt]
    rw [if_neg h12]; rfl)]
  rw [seq_nx (δ1 := [.no, .rd .src, .ow (.lst [wI a, wI b, wI c, wI d]), .rd (wI a), .rd (wI b), .rd (wI c), .rd (wI d), .rd (cQ q), .rd (cQ q.back), .rd (.int (ed q a b)), .rd (.int (ed q a b)), .rd (.tupk ((scr q a b).map wD)), .rd (tbl q a b), .no, .no, .no, .no, .no, .no, .no, .no, .no]) (s1 := s2) (by simp [paper (show a.length ≤ 8 by omega) (show b.length ≤ 8 by omega) hq])]
  rw [seq_nx (δ1 := [.no, .rd .src, .ow (.lst [wI a, wI b, wI c, wI d]), .rd (wI a), .rd (wI b), .rd (wI c), .rd (wI d), .rd (cQ q), .rd (cQ q.back), .rd (.int (ed q a b)), .rd (.int (ed q a b)), .rd (.tupk ((scr q a b).map wD)), .rd (tbl q a b), .ow (.lst [.int ((scr q a b).count .keep : Nat), .int ((scr q a b).count .change : Nat), .int ((scr q a b).count .drop : Nat), .int ((scr q a b).count .add : Nat)]), .no, .no, .no, .no, .no, .no, .no, .no]) (s1 := s2) (by rw [sOwn_ap, kinds]; rfl)]
  rw [seq_nx (δ1 := [.no, .rd .src, .ow (.lst [wI a, wI b, wI c, wI d]), .rd (wI a), .rd (wI b), .rd (wI c), .rd (wI d), .rd (cQ q), .rd (cQ q.back), .rd (.int (ed q a b)), .rd (.int (ed q a b)), .rd (.tupk ((scr q a b).map wD)), .rd (tbl q a b), .ow (.lst [.int ((scr q a b).count .keep : Nat), .int ((scr q a b).count .change : Nat), .int ((scr q a b).count .drop : Nat), .int ((scr q a b).count .add : Nat)]), .no, .no, .no, .no, .no, .no, .no, .no]) (s1 := s2) (by
    have m1 := DL.mul_int (DL.mulC_l (i := ((scr q a b).count .change : Nat)) (j := q.ch) (by omega))
    have m2 := DL.mul_int (DL.mulC_l (i := ((scr q a b).count .drop : Nat)) (j := q.dr) (by omega))
    have m3 := DL.mul_int (DL.mulC_l (i := ((scr q a b).count .add : Nat)) (j := q.ad) (by omega))
    have n1 : ((scr q a b).count .keep : Int) + (scr q a b).count .change + (scr q a b).count .drop = a.length := by omega
    have n2 : ((scr q a b).count .keep : Int) + (scr q a b).count .change + (scr q a b).count .add = b.length := by omega
    simp [m1, m2, m3, n1, n2, ← k3])]
  rw [seq_nx (δ1 := [.no, .rd .src, .ow (.lst [wI a, wI b, wI c, wI d]), .rd (wI a), .rd (wI b), .rd (wI c), .rd (wI d), .rd (cQ q), .rd (cQ q.back), .rd (.int (ed q a b)), .rd (.int (ed q a b)), .rd (.tupk ((scr q a b).map wD)), .rd (tbl q a b), .ow (.lst [.int ((scr q a b).count .keep : Nat), .int ((scr q a b).count .change : Nat), .int ((scr q a b).count .drop : Nat), .int ((scr q a b).count .add : Nat)]), .rd (.dct [("keep", "keep"), ("change", "change"), ("drop", "add"), ("add", "drop")]), .no, .no, .no, .no, .no, .no, .no]) (s1 := s2) (by simp)]
  rw [seq_nx (δ1 := [.no, .rd .src, .ow (.lst [wI a, wI b, wI c, wI d]), .rd (wI a), .rd (wI b), .rd (wI c), .rd (wI d), .rd (cQ q), .rd (cQ q.back), .rd (.int (ed q a b)), .rd (.int (ed q a b)), .rd (.tupk ((scr q a b).map wD)), .rd (tbl q a b), .ow (.lst [.int ((scr q a b).count .keep : Nat), .int ((scr q a b).count .change : Nat), .int ((scr q a b).count .drop : Nat), .int ((scr q a b).count .add : Nat)]), .rd (.dct [("keep", "keep"), ("change", "change"), ("drop", "add"), ("add", "drop")]), .rd (tbl q.back b a), .no, .no, .no, .no, .no, .no]) (s1 := s2) (by simp [table (show b.length ≤ 8 by omega) (show a.length ≤ 8 by omega) hq.back])]
  rw [seq_nx (δ1 := [.no, .rd .src, .ow (.lst [wI a, wI b, wI c, wI d]), .rd (wI a), .rd (wI b), .rd (wI c), .rd (wI d), .rd (cQ q), .rd (cQ q.back), .rd (.int (ed q a b)), .rd (.int (ed q a b)), .rd (.tupk ((scr q a b).map wD)), .rd (tbl q a b), .ow (.lst [.int ((scr q a b).count .keep : Nat), .int ((scr q a b).count .change : Nat), .int ((scr q a b).count .drop : Nat), .int ((scr q a b).count .add : Nat)]), .rd (.dct [("keep", "keep"), ("change", "change"), ("drop", "add"), ("add", "drop")]), .rd (tbl q.back b a), .no, .no, .no, .no, .no, .no]) (s1 := s2) (by
    have t1 := hsc.swap
    rw [← ed_swap hq a b] at t1
    have hl := hsc.len
    have t2 := takes (show b.length ≤ 8 by omega) (show a.length ≤ 8 by omega) hq.back t1 (by rw [List.length_map]; omega) s2
    rw [ed_swap hq a b] at t2
    have t3 : dIsN (.bl true) (.bl true) = some (.bl false) := rfl
    simp only [sIf_ap, bOf_ap, e2_ap, eFn_ap, eAs_ap, eVar_ap, gt_succ, gt_zero, sl_rd, of_some, Option.bind_some, eTup_ap, eCall_ap, turned, eAs0_ap, tup_lst, eC_ap, List.length_cons, List.length_nil]
    simp [t2, t3, -List.map_map])]
  rw [seq_nx (δ1 := [.no, .rd .src, .ow (.lst [wI a, wI b, wI c, wI d]), .rd (wI a), .rd (wI b), .rd (wI c), .rd (wI d), .rd (cQ q), .rd (cQ q.back), .rd (.int (ed q a b)), .rd (.int (ed q a b)), .rd (.tupk ((scr q a b).map wD)), .rd (tbl q a b), .ow (.lst [.int ((scr q a b).count .keep : Nat), .int ((scr q a b).count .change : Nat), .int ((scr q a b).count .drop : Nat), .int ((scr q a b).count .add : Nat)]), .rd (.dct [("keep", "keep"), ("change", "change"), ("drop", "add"), ("add", "drop")]), .rd (tbl q.back b a), .rd (cQ (dear q.dr q.ad)), .no, .no, .no, .no, .no]) (s1 := s2) (by simp [dear_eq])]
  rw [seq_nx (δ1 := [.no, .rd .src, .ow (.lst [wI a, wI b, wI c, wI d]), .rd (wI a), .rd (wI b), .rd (wI c), .rd (wI d), .rd (cQ q), .rd (cQ q.back), .rd (.int (ed q a b)), .rd (.int (ed q a b)), .rd (.tupk ((scr q a b).map wD)), .rd (tbl q a b), .ow (.lst [.int ((scr q a b).count .keep : Nat), .int ((scr q a b).count .change : Nat), .int ((scr q a b).count .drop : Nat), .int ((scr q a b).count .add : Nat)]), .rd (.dct [("keep", "keep"), ("change", "change"), ("drop", "add"), ("add", "drop")]), .rd (tbl q.back b a), .rd (cQ (dear q.dr q.ad)), .rd (.int (cm a b)), .no, .no, .no, .no]) (s1 := s2) (by simp [comm (show a.length ≤ 8 by omega) (show b.length ≤ 8 by omega)])]
  rw [seq_nx (δ1 := [.no, .rd .src, .ow (.lst [wI a, wI b, wI c, wI d]), .rd (wI a), .rd (wI b), .rd (wI c), .rd (wI d), .rd (cQ q), .rd (cQ q.back), .rd (.int (ed q a b)), .rd (.int (ed q a b)), .rd (.tupk ((scr q a b).map wD)), .rd (tbl q a b), .ow (.lst [.int ((scr q a b).count .keep : Nat), .int ((scr q a b).count .change : Nat), .int ((scr q a b).count .drop : Nat), .int ((scr q a b).count .add : Nat)]), .rd (.dct [("keep", "keep"), ("change", "change"), ("drop", "add"), ("add", "drop")]), .rd (tbl q.back b a), .rd (cQ (dear q.dr q.ad)), .rd (.int (cm a b)), .no, .no, .no, .no]) (s1 := s2) (by
    have m1 := DL.mul_int (DL.mulC_l (i := (a.length : Int) - cm a b) (j := q.dr) (by omega))
    have m2 := DL.mul_int (DL.mulC_l (i := (b.length : Int) - cm a b) (j := q.ad) (by omega))
    simp [m1, m2, L (show a.length ≤ 8 by omega) (show b.length ≤ 8 by omega) (dear_ok hq.d hq.a), cm_far a b hq.d hq.a])]
  rw [seq_nx (δ1 := [.no, .rd .src, .ow (.lst [wI a, wI b, wI c, wI d]), .rd (wI a), .rd (wI b), .rd (wI c), .rd (wI d), .rd (cQ q), .rd (cQ q.back), .rd (.int (ed q a b)), .rd (.int (ed q a b)), .rd (.tupk ((scr q a b).map wD)), .rd (tbl q a b), .ow (.lst [.int ((scr q a b).count .keep : Nat), .int ((scr q a b).count .change : Nat), .int ((scr q a b).count .drop : Nat), .int ((scr q a b).count .add : Nat)]), .rd (.dct [("keep", "keep"), ("change", "change"), ("drop", "add"), ("add", "drop")]), .rd (tbl q.back b a), .rd (cQ (dear q.dr q.ad)), .rd (.int (cm a b)), .rd (wI z), .no, .no, .no]) (s1 := s3) (by rw [sSet_ap, eCall_ap, eAs_ap, c19]; simp [wI])]
  refine ⟨s3, ?_⟩
  have m1 := DL.mul_int (DL.mulC_l (i := (a.length : Int) - z.length) (j := q.dr) (by omega))
  have f1 := ed_sub hq hz
  have f2 := cm_sub hz
  have f3 := cm_swap b a
  have f4 : cm a b ≤ (if (b.length : Int) < a.length then (b.length : Int) else a.length) := by split <;> omega
  simp [m1, least (show a.length ≤ 8 by omega) (show z.length ≤ 8 by omega) hq, comm (show a.length ≤ 8 by omega) (show z.length ≤ 8 by omega), comm (show a.length ≤ 8 by omega) (show b.length ≤ 8 by omega), comm (show b.length ≤ 8 by omega) (show a.length ≤ 8 by omega), f1, f2, f3]
  split <;> omega
theorem law_true : ∀ st : Src, ∃ st', g_law (.no :: .rd .src :: List.replicate 20 .no) st = some (.rt (.bl true), st') := by
  intro st
  obtain ⟨a, b, c, d, s1, h0, ha, hb, hc, hd⟩ := words4 st
  obtain ⟨q, s2, hq, hcost⟩ := costs_ap (A := .no) (r := ([.no, .rd .src, .ow (.lst [wI a, wI b, wI c, wI d]), .rd (wI a), .rd (wI b), .rd (wI c), .rd (wI d), .no, .no, .no, .no, .no, .no, .no, .no, .no, .no, .no, .no, .no, .no, .no] : Ev).drop 2) s1
  exact law_over ha hb hc hd s1 hq hcost st h0
end K47
set_option Elab.async false
set_option linter.all false
set_option maxRecDepth 100000
set_option maxHeartbeats 4000000
namespace K47
open PySem PySem.Spec PyProof.Rows L2 DL
theorem all_mk {l : PySem.W.OpenLaw} {w : World} {K : PySem.W.Frag} {h : Heap} {mg : Str → Option Value} {fa : Addr} (X : K.In h) (G : h.Ns mainGlobals mg) (hfa : mg "law" = some (.ref fa))
    {f0 : Addr} {od0 an0 : Option Addr} {sl0 : Array (Option Value)} {oc0 kV0 dc0 pm0 cd0 ct0 : Value} (a0 : PySem.W.nsIn K mainGlobals "is_integer" = some (some (.ref f0))) (l0 : K.lookup f0 = some ⟨oc0, od0, .func (PySem.W.fnOf "is_integer" "is_integer" (defArgs (topS 4)) (defBody (topS 4)) (defScope (topS 4)) .none kV0 dc0 pm0 an0 cd0 ct0), sl0⟩) (c0 : PySem.W.codeIn K cd0 "is_integer" = true) (k0 : PySem.W.keepIn K (.ref f0) = true)
    {f1 : Addr} {od1 an1 : Option Addr} {sl1 : Array (Option Value)} {oc1 kV1 dc1 pm1 cd1 ct1 : Value} (a1 : PySem.W.nsIn K mainGlobals "check_words" = some (some (.ref f1))) (l1 : K.lookup f1 = some ⟨oc1, od1, .func (PySem.W.fnOf "check_words" "check_words" (defArgs (topS 7)) (defBody (topS 7)) (defScope (topS 7)) .none kV1 dc1 pm1 an1 cd1 ct1), sl1⟩) (c1 : PySem.W.codeIn K cd1 "check_words" = true) (k1 : PySem.W.keepIn K (.ref f1) = true)
    {f2 : Addr} {od2 an2 : Option Addr} {sl2 : Array (Option Value)} {oc2 kV2 dc2 pm2 cd2 ct2 : Value} (a2 : PySem.W.nsIn K mainGlobals "edit_table" = some (some (.ref f2))) (l2 : K.lookup f2 = some ⟨oc2, od2, .func (PySem.W.fnOf "edit_table" "edit_table" (defArgs (topS 8)) (defBody (topS 8)) (defScope (topS 8)) .none kV2 dc2 pm2 an2 cd2 ct2), sl2⟩) (c2 : PySem.W.codeIn K cd2 "edit_table" = true) (k2 : PySem.W.keepIn K (.ref f2) = true)
    {f3 : Addr} {od3 an3 : Option Addr} {sl3 : Array (Option Value)} {oc3 kV3 dc3 pm3 cd3 ct3 : Value} (a3 : PySem.W.nsIn K mainGlobals "edit_paper" = some (some (.ref f3))) (l3 : K.lookup f3 = some ⟨oc3, od3, .func (PySem.W.fnOf "edit_paper" "edit_paper" (defArgs (topS 9)) (defBody (topS 9)) (defScope (topS 9)) .none kV3 dc3 pm3 an3 cd3 ct3), sl3⟩) (c3 : PySem.W.codeIn K cd3 "edit_paper" = true) (k3 : PySem.W.keepIn K (.ref f3) = true)
    {f4 : Addr} {od4 an4 : Option Addr} {sl4 : Array (Option Value)} {oc4 kV4 dc4 pm4 cd4 ct4 : Value} (a4 : PySem.W.nsIn K mainGlobals "script_cost" = some (some (.ref f4))) (l4 : K.lookup f4 = some ⟨oc4, od4, .func (PySem.W.fnOf "script_cost" "script_cost" (defArgs (topS 10)) (defBody (topS 10)) (defScope (topS 10)) .none kV4 dc4 pm4 an4 cd4 ct4), sl4⟩) (c4 : PySem.W.codeIn K cd4 "script_cost" = true) (k4 : PySem.W.keepIn K (.ref f4) = true)
    {f5 : Addr} {od5 an5 : Option Addr} {sl5 : Array (Option Value)} {oc5 kV5 dc5 pm5 cd5 ct5 : Value} (a5 : PySem.W.nsIn K mainGlobals "takes_edit" = some (some (.ref f5))) (l5 : K.lookup f5 = some ⟨oc5, od5, .func (PySem.W.fnOf "takes_edit" "takes_edit" (defArgs (topS 11)) (defBody (topS 11)) (defScope (topS 11)) .none kV5 dc5 pm5 an5 cd5 ct5), sl5⟩) (c5 : PySem.W.codeIn K cd5 "takes_edit" = true) (k5 : PySem.W.keepIn K (.ref f5) = true)
    {f6 : Addr} {od6 an6 : Option Addr} {sl6 : Array (Option Value)} {oc6 kV6 dc6 pm6 cd6 ct6 : Value} (a6 : PySem.W.nsIn K mainGlobals "is_table" = some (some (.ref f6))) (l6 : K.lookup f6 = some ⟨oc6, od6, .func (PySem.W.fnOf "is_table" "is_table" (defArgs (topS 12)) (defBody (topS 12)) (defScope (topS 12)) .none kV6 dc6 pm6 an6 cd6 ct6), sl6⟩) (c6 : PySem.W.codeIn K cd6 "is_table" = true) (k6 : PySem.W.keepIn K (.ref f6) = true)
    {f7 : Addr} {od7 an7 : Option Addr} {sl7 : Array (Option Value)} {oc7 kV7 dc7 pm7 cd7 ct7 : Value} (a7 : PySem.W.nsIn K mainGlobals "grows" = some (some (.ref f7))) (l7 : K.lookup f7 = some ⟨oc7, od7, .func (PySem.W.fnOf "grows" "grows" (defArgs (topS 13)) (defBody (topS 13)) (defScope (topS 13)) .none kV7 dc7 pm7 an7 cd7 ct7), sl7⟩) (c7 : PySem.W.codeIn K cd7 "grows" = true) (k7 : PySem.W.keepIn K (.ref f7) = true)
    {f8 : Addr} {od8 an8 : Option Addr} {sl8 : Array (Option Value)} {oc8 kV8 dc8 pm8 cd8 ct8 : Value} (a8 : PySem.W.nsIn K mainGlobals "common" = some (some (.ref f8))) (l8 : K.lookup f8 = some ⟨oc8, od8, .func (PySem.W.fnOf "common" "common" (defArgs (topS 14)) (defBody (topS 14)) (defScope (topS 14)) .none kV8 dc8 pm8 an8 cd8 ct8), sl8⟩) (c8 : PySem.W.codeIn K cd8 "common" = true) (k8 : PySem.W.keepIn K (.ref f8) = true)
    {f9 : Addr} {od9 an9 : Option Addr} {sl9 : Array (Option Value)} {oc9 kV9 dc9 pm9 cd9 ct9 : Value} (a9 : PySem.W.nsIn K mainGlobals "_law_begin" = some (some (.ref f9))) (l9 : K.lookup f9 = some ⟨oc9, od9, .func (PySem.W.fnOf "_law_begin" "_law_begin" (defArgs (topS 16)) (defBody (topS 16)) (defScope (topS 16)) .none kV9 dc9 pm9 an9 cd9 ct9), sl9⟩) (c9 : PySem.W.codeIn K cd9 "_law_begin" = true) (k9 : PySem.W.keepIn K (.ref f9) = true)
    {f10 : Addr} {od10 an10 : Option Addr} {sl10 : Array (Option Value)} {oc10 kV10 dc10 pm10 cd10 ct10 : Value} (a10 : PySem.W.nsIn K mainGlobals "_law_take" = some (some (.ref f10))) (l10 : K.lookup f10 = some ⟨oc10, od10, .func (PySem.W.fnOf "_law_take" "_law_take" (defArgs (topS 17)) (defBody (topS 17)) (defScope (topS 17)) .none kV10 dc10 pm10 an10 cd10 ct10), sl10⟩) (c10 : PySem.W.codeIn K cd10 "_law_take" = true) (k10 : PySem.W.keepIn K (.ref f10) = true)
    {f11 : Addr} {od11 an11 : Option Addr} {sl11 : Array (Option Value)} {oc11 kV11 dc11 pm11 cd11 ct11 : Value} (a11 : PySem.W.nsIn K mainGlobals "_law_least" = some (some (.ref f11))) (l11 : K.lookup f11 = some ⟨oc11, od11, .func (PySem.W.fnOf "_law_least" "_law_least" (defArgs (topS 18)) (defBody (topS 18)) (defScope (topS 18)) .none kV11 dc11 pm11 an11 cd11 ct11), sl11⟩) (c11 : PySem.W.codeIn K cd11 "_law_least" = true) (k11 : PySem.W.keepIn K (.ref f11) = true)
    {f12 : Addr} {od12 an12 : Option Addr} {sl12 : Array (Option Value)} {oc12 kV12 dc12 pm12 cd12 ct12 : Value} (a12 : PySem.W.nsIn K mainGlobals "law" = some (some (.ref f12))) (l12 : K.lookup f12 = some ⟨oc12, od12, .func (PySem.W.fnOf "law" "law" (defArgs (topS 19)) (defBody (topS 19)) (defScope (topS 19)) .none kV12 dc12 pm12 an12 cd12 ct12), sl12⟩) (c12 : PySem.W.codeIn K cd12 "law" = true) (k12 : PySem.W.keepIn K (.ref f12) = true)
    (z_abs : PySem.W.nsIn K mainGlobals "abs" = some none)
    (z_any : PySem.W.nsIn K mainGlobals "any" = some none)
    (z_bool : PySem.W.nsIn K mainGlobals "bool" = some none)
    (z_enumerate : PySem.W.nsIn K mainGlobals "enumerate" = some none)
    (z_int : PySem.W.nsIn K mainGlobals "int" = some none)
    (z_isinstance : PySem.W.nsIn K mainGlobals "isinstance" = some none)
    (z_len : PySem.W.nsIn K mainGlobals "len" = some none)
    (z_list : PySem.W.nsIn K mainGlobals "list" = some none)
    (z_max : PySem.W.nsIn K mainGlobals "max" = some none)
    (z_min : PySem.W.nsIn K mainGlobals "min" = some none)
    (z_range : PySem.W.nsIn K mainGlobals "range" = some none)
    (z_str : PySem.W.nsIn K mainGlobals "str" = some none)
    (z_tuple : PySem.W.nsIn K mainGlobals "tuple" = some none)
    {t_MOST_LENGTH : Tok} (m_MOST_LENGTH : PySem.W.nsIn K mainGlobals "MOST_LENGTH" = some (some (.int 8 t_MOST_LENGTH)))
    : ∃ fd : FuncData, (∀ (s : Shared) (v : Value), BindsTo s fd ⟨[v], []⟩ [("script", v)]) ∧ ∀ base : Heap, K.In base → base.Ns mainGlobals mg → FnOk l.prog w K mg base CX0 5 fa fd ["script"] (spLaw K) := by
  have e := hfa.symm.trans (PySem.W.mg_of X G a12)
  cases e
  have F0 := fun_mk (st := topS 4) l0 c0 k0
  have b0 := F0.binds (ps := ["value"]) fun _ _ _ _ _ _ us hl => match us, hl with | [_], _ => rfl
  have F1 := fun_mk (st := topS 7) l1 c1 k1
  have b1 := F1.binds (ps := ["one", "other", "costs"]) fun _ _ _ _ _ _ us hl => match us, hl with | [_, _, _], _ => rfl
  have F2 := fun_mk (st := topS 8) l2 c2 k2
  have b2 := F2.binds (ps := ["one", "other", "costs"]) fun _ _ _ _ _ _ us hl => match us, hl with | [_, _, _], _ => rfl
  have F3 := fun_mk (st := topS 9) l3 c3 k3
  have b3 := F3.binds (ps := ["one", "other", "costs"]) fun _ _ _ _ _ _ us hl => match us, hl with | [_, _, _], _ => rfl
  have F4 := fun_mk (st := topS 10) l4 c4 k4
  have b4 := F4.binds (ps := ["one", "other", "costs", "script"]) fun _ _ _ _ _ _ us hl => match us, hl with | [_, _, _, _], _ => rfl
  have F5 := fun_mk (st := topS 11) l5 c5 k5
  have b5 := F5.binds (ps := ["one", "other", "costs", "paper"]) fun _ _ _ _ _ _ us hl => match us, hl with | [_, _, _, _], _ => rfl
  have F6 := fun_mk (st := topS 12) l6 c6 k6
  have b6 := F6.binds (ps := ["table", "high", "wide"]) fun _ _ _ _ _ _ us hl => match us, hl with | [_, _, _], _ => rfl
  have F7 := fun_mk (st := topS 13) l7 c7 k7
  have b7 := F7.binds (ps := ["one", "other", "costs", "table"]) fun _ _ _ _ _ _ us hl => match us, hl with | [_, _, _, _], _ => rfl
  have F8 := fun_mk (st := topS 14) l8 c8 k8
  have b8 := F8.binds (ps := ["one", "other"]) fun _ _ _ _ _ _ us hl => match us, hl with | [_, _], _ => rfl
  have F9 := fun_mk (st := topS 16) l9 c9 k9
  have b9 := F9.binds (ps := ["script"]) fun _ _ _ _ _ _ us hl => match us, hl with | [_], _ => rfl
  have F10 := fun_mk (st := topS 17) l10 c10 k10
  have b10 := F10.binds (ps := ["d", "many"]) fun _ _ _ _ _ _ us hl => match us, hl with | [_, _], _ => rfl
  have F11 := fun_mk (st := topS 18) l11 c11 k11
  have b11 := F11.binds (ps := ["one", "other", "costs"]) fun _ _ _ _ _ _ us hl => match us, hl with | [_, _, _], _ => rfl
  have F12 := fun_mk (st := topS 19) l12 c12 k12
  exact ⟨PySem.W.fnOf "law" "law" (defArgs (topS 19)) (defBody (topS 19)) (defScope (topS 19)) .none kV12 dc12 pm12 an12 cd12 ct12, fun s v => .of_eq rfl, fun base _ _ => ok_law (K := K) (mg := mg) ⟨f0, _, F0, (PySem.W.mg_of X G a0), b0, f1, _, F1, (PySem.W.mg_of X G a1), b1, f2, _, F2, (PySem.W.mg_of X G a2), b2, f3, _, F3, (PySem.W.mg_of X G a3), b3, f4, _, F4, (PySem.W.mg_of X G a4), b4, f5, _, F5, (PySem.W.mg_of X G a5), b5, f6, _, F6, (PySem.W.mg_of X G a6), b6, f7, _, F7, (PySem.W.mg_of X G a7), b7, f8, _, F8, (PySem.W.mg_of X G a8), b8, f9, _, F9, (PySem.W.mg_of X G a9), b9, f10, _, F10, (PySem.W.mg_of X G a10), b10, f11, _, F11, (PySem.W.mg_of X G a11), b11, (PySem.W.mg_none_of X G z_abs), (PySem.W.mg_none_of X G z_any), (PySem.W.mg_none_of X G z_bool), (PySem.W.mg_none_of X G z_enumerate), (PySem.W.mg_none_of X G z_int), (PySem.W.mg_none_of X G z_isinstance), (PySem.W.mg_none_of X G z_len), (PySem.W.mg_none_of X G z_list), (PySem.W.mg_none_of X G z_max), (PySem.W.mg_none_of X G z_min), (PySem.W.mg_none_of X G z_range), (PySem.W.mg_none_of X G z_str), (PySem.W.mg_none_of X G z_tuple), ⟨_, PySem.W.mg_of X G m_MOST_LENGTH⟩⟩ F12 law_true⟩
end K47
open PySem PySem.W PyProof.Rows
set_option maxHeartbeats 0 in
theorem PySem.Challenge.cw_farandnear_k47_whole_turned_and_joined_w_holds : PySem.Challenge.rw_farandnear_k47_whole_turned_and_joined_w.Holds := by
  w_on; o_law; k_head; (case hw => w_witness2)
  k_fill
  refine L2.walk_of (l := PySem.Challenge.rw_farandnear_k47_whole_turned_and_joined_w) (n := 63) (k := 5) (x := "script") (CX := fun _ => L2.CX0) (sp := fun w => DL.spLaw _) rfl (by decide) rfl ⟨rfl, by decide, by decide⟩ (fun w h Y => PySem.W.kIn_of Y) ?F (fun _ _ a ns hl _ hS => ⟨a, ns, rfl, hS, hl, fun _ => rfl⟩) (fun _ _ _ _ _ h => h)
  case F =>
    intro w mg fa h KX G hmg
    refine' K47.all_mk KX G hmg ?a0 ?l0 ?c0 ?k0 ?a1 ?l1 ?c1 ?k1 ?a2 ?l2 ?c2 ?k2 ?a3 ?l3 ?c3 ?k3 ?a4 ?l4 ?c4 ?k4 ?a5 ?l5 ?c5 ?k5 ?a6 ?l6 ?c6 ?k6 ?a7 ?l7 ?c7 ?k7 ?a8 ?l8 ?c8 ?k8 ?a9 ?l9 ?c9 ?k9 ?a10 ?l10 ?c10 ?k10 ?a11 ?l11 ?c11 ?k11 ?a12 ?l12 ?c12 ?k12 ?z_abs ?z_any ?z_bool ?z_enumerate ?z_int ?z_isinstance ?z_len ?z_list ?z_max ?z_min ?z_range ?z_str ?z_tuple ?m_MOST_LENGTH
    (case a0 => k_is); (case l0 => k_is); (case c0 => k_is); (case k0 => k_is); (case a1 => k_is); (case l1 => k_is); (case c1 => k_is); (case k1 => k_is); (case a2 => k_is); (case l2 => k_is); (case c2 => k_is); (case k2 => k_is); (case a3 => k_is); (case l3 => k_is); (case c3 => k_is); (case k3 => k_is); (case a4 => k_is); (case l4 => k_is); (case c4 => k_is); (case k4 => k_is); (case a5 => k_is); (case l5 => k_is); (case c5 => k_is); (case k5 => k_is); (case a6 => k_is); (case l6 => k_is); (case c6 => k_is); (case k6 => k_is); (case a7 => k_is); (case l7 => k_is); (case c7 => k_is); (case k7 => k_is); (case a8 => k_is); (case l8 => k_is); (case c8 => k_is); (case k8 => k_is); (case a9 => k_is); (case l9 => k_is); (case c9 => k_is); (case k9 => k_is); (case a10 => k_is); (case l10 => k_is); (case c10 => k_is); (case k10 => k_is); (case a11 => k_is); (case l11 => k_is); (case c11 => k_is); (case k11 => k_is); (case a12 => k_is); (case l12 => k_is); (case c12 => k_is); (case k12 => k_is); (case z_abs => k_is); (case z_any => k_is); (case z_bool => k_is); (case z_enumerate => k_is); (case z_int => k_is); (case z_isinstance => k_is); (case z_len => k_is); (case z_list => k_is); (case z_max => k_is); (case z_min => k_is); (case z_range => k_is); (case z_str => k_is); (case z_tuple => k_is); (case m_MOST_LENGTH => k_is)
