import PyProof.Rows.All
import Wide.All
import OpenK.AllK
import Wide.FinOn
import HandS.ForMost
import HandS.TupAny
import HandS.Wide
import HandS.IsInst
import HandS.Zip
import HandS.Style
import HandS.NoneIn
import HandS.Conv
import PyProof.MaxThree
import KE.GoesEnum
import KE.DataFind
import KE.KRevSl
import KE.KTupSum
import PySem.Challenge.RW_farandnear_k38_whole_least_rows_and_more
set_option Elab.async false
set_option linter.all false
set_option maxRecDepth 100000
set_option maxHeartbeats 4000000
/-! DL1: data as trees (D), what stands in the abstract heap for them (Rp), the source of draws (Src), expressions as functions of the slots' data. -/
namespace DL
open PySem PySem.Spec PyProof.Rows L2

inductive D where
  | non | bl (b : Bool) | int (i : Int) | str (x : Str) | tup (xs : List D) | lst (xs : List D) | src | dct (kvs : List (Str × Str)) | tupk (xs : List D)
deriving Inhabited

/-- where the source of draws stands: its own list, the script's copy -/
structure Sr where
  dA : Addr
  q : Addr
  /-- lists that no value leads to -/
  hid : Addr → Prop
  hA : hid dA
  hQ : hid q
/-- what is hidden is tracked -/
def Sr.tr (S : Sr) (H : Hp) : Prop := ∀ b, S.hid b → H b ≠ none
/-- the source of draws -/
structure Src where
  script : List Int
  pos : Nat
  big : Int
  seed : Int

mutual
inductive Rp (S : Sr) (H : Hp) : V → D → List Addr → Prop
  | non : Rp S H .non .non []
  | bl (b : Bool) : Rp S H (.bl b) (.bl b) []
  | int (i : Int) : Rp S H (.int i) (.int i) []
  | str (x : Str) : Rp S H (.str x) (.str x) []
  | tup {a : Addr} {vs : List V} {ds : List D} {L : List Addr} : H a = some (.tup vs) → Rps S H vs ds L → Rp S H (.ref a) (.tup ds) L
  | lst {a : Addr} {vs : List V} {ds : List D} {L : List Addr} : H a = some (.lst vs) → ¬ S.hid a → Rps S H vs ds L → Rp S H (.ref a) (.lst ds) (a :: L)
  | src : Rp S H (.ref S.dA) .src []
  | dct {a : Addr} {kvs : List (Str × Str)} : H a = some (.dK (kvs.map fun p => (Sum.inr p.1, V.str p.2))) → Rp S H (.ref a) (.dct kvs) []
  /-- a tuple whose object is known to be plain (its methods may be called) -/
  | tupk {a : Addr} {o : Obj} {vs : List V} {ds : List D} {L : List Addr} : H a = some (.frz o (.tup vs)) → o.dict = none → Rps S H vs ds L → Rp S H (.ref a) (.tupk ds) L
inductive Rps (S : Sr) (H : Hp) : List V → List D → List Addr → Prop
  | nil : Rps S H [] [] []
  | cons {v : V} {vs : List V} {d : D} {ds : List D} {L L' : List Addr} : Rp S H v d L → Rps S H vs ds L' → Rps S H (v :: vs) (d :: ds) (L ++ L')
end

/-- what stays: tuples, lists but those at W, what is tracked -/
structure HE (W : Addr → Prop) (H H' : Hp) : Prop where
  tup : ∀ b xs, H b = some (.tup xs) → H' b = some (.tup xs)
  lst : ∀ b xs, ¬ W b → H b = some (.lst xs) → H' b = some (.lst xs)
  new : ∀ b, H' b = none → H b = none
  dk : ∀ b kvs, H b = some (.dK kvs) → H' b = some (.dK kvs)
  fz : ∀ b o u, H b = some (.frz o u) → H' b = some (.frz o u)
abbrev HE0 := HE (fun _ => False)
abbrev Ext (S : Sr) := HE (fun b => b = S.dA)

section
variable {S : Sr} {W W' : Addr → Prop} {H H1 H2 H' : Hp}
theorem HE.refl : HE W H H := ⟨fun _ _ h => h, fun _ _ _ h => h, fun _ h => h, fun _ _ h => h, fun _ _ _ h => h⟩
theorem HE.trans (a : HE W H H1) (b : HE W H1 H2) : HE W H H2 := ⟨fun c xs h => b.tup c xs (a.tup c xs h), fun c xs w h => b.lst c xs w (a.lst c xs w h), fun c h => a.new c (b.new c h), fun c xs h => b.dk c xs (a.dk c xs h), fun c o u h => b.fz c o u (a.fz c o u h)⟩
theorem HE.mono (a : HE W H H1) (h : ∀ b, W b → W' b) : HE W' H H1 := ⟨a.tup, fun c xs w e => a.lst c xs (fun z => w (h c z)) e, a.new, a.dk, a.fz⟩
theorem HE.up0 (a : HE0 H H1) : HE W H H1 := a.mono fun _ z => z.elim
theorem HE.fresh {p : Addr} {o : HO} (h : H p = none) : HE W H (upd H p o) :=
  ⟨fun b xs e => by rw [upd_ne (ne_of_none e h)]; exact e, fun b xs _ e => by rw [upd_ne (ne_of_none e h)]; exact e, fun b e => by
    by_cases hb : b = p
    · subst hb; exact h
    · rw [upd_ne hb] at e; exact e, fun b xs e => by rw [upd_ne (ne_of_none e h)]; exact e, fun b o u e => by rw [upd_ne (ne_of_none e h)]; exact e⟩
theorem HE.write {p : Addr} {xs ys : List V} (h : H p = some (.lst xs)) (w : W p) : HE W H (upd H p (.lst ys)) :=
  ⟨fun b zs e => by rw [upd_ne (ne_of e h (by intro z; cases z))]; exact e, fun b zs n e => by
      have hb : b ≠ p := fun z => n (z ▸ w)
      rw [upd_ne hb]; exact e, fun b e => by
    by_cases hb : b = p
    · subst hb; rw [upd_same] at e; cases e
    · rw [upd_ne hb] at e; exact e, fun b zs e => by rw [upd_ne (ne_of e h (by intro z; cases z))]; exact e, fun b o u e => by rw [upd_ne (ne_of e h (by intro z; cases z))]; exact e⟩

mutual
theorem Rp.ne {v : V} {d : D} {L : List Addr} (r : Rp S H v d L) : ∀ a ∈ L, ¬ S.hid a ∧ ∃ xs, H a = some (.lst xs) := by
  cases r with
  | non => simp
  | bl => simp
  | int => simp
  | str => simp
  | src => simp
  | dct => simp
  | tup h rs => exact rs.ne
  | tupk h _ rs => exact rs.ne
  | lst h n rs =>
    intro a ha
    rcases List.mem_cons.mp ha with rfl | ha
    · exact ⟨n, _, h⟩
    · exact rs.ne a ha
theorem Rps.ne {vs : List V} {ds : List D} {L : List Addr} (r : Rps S H vs ds L) : ∀ a ∈ L, ¬ S.hid a ∧ ∃ xs, H a = some (.lst xs) := by
  cases r with
  | nil => simp
  | cons r rs =>
    intro a ha
    rcases List.mem_append.mp ha with ha | ha
    · exact r.ne a ha
    · exact rs.ne a ha
end
mutual
theorem Rp.ext {v : V} {d : D} {L : List Addr} (he : HE W H H') (hL : ∀ a ∈ L, ¬ W a) (r : Rp S H v d L) : Rp S H' v d L := by
  cases r with
  | non => exact .non
  | bl b => exact .bl b
  | int i => exact .int i
  | str x => exact .str x
  | src => exact .src
  | dct e => exact .dct (he.dk _ _ e)
  | tup h rs => exact .tup (he.tup _ _ h) (rs.ext he hL)
  | tupk h hd rs => exact .tupk (he.fz _ _ _ h) hd (rs.ext he hL)
  | lst h n rs => exact .lst (he.lst _ _ (hL _ List.mem_cons_self) h) n (rs.ext he fun a ha => hL a (List.mem_cons_of_mem _ ha))
theorem Rps.ext {vs : List V} {ds : List D} {L : List Addr} (he : HE W H H') (hL : ∀ a ∈ L, ¬ W a) (r : Rps S H vs ds L) : Rps S H' vs ds L := by
  cases r with
  | nil => exact .nil
  | cons r rs => exact .cons (r.ext he fun a ha => hL a (List.mem_append_left _ ha)) (rs.ext he fun a ha => hL a (List.mem_append_right _ ha))
end
theorem Rp.extS {v : V} {d : D} {L : List Addr} (r : Rp S H v d L) (he : Ext S H H') : Rp S H' v d L := r.ext he fun a ha z => (r.ne a ha).1 (z ▸ S.hA)
theorem Rps.extS {vs : List V} {ds : List D} {L : List Addr} (r : Rps S H vs ds L) (he : Ext S H H') : Rps S H' vs ds L := r.ext he fun a ha z => (r.ne a ha).1 (z ▸ S.hA)
theorem Rp.ext0 {v : V} {d : D} {L : List Addr} (r : Rp S H v d L) (he : HE0 H H') : Rp S H' v d L := r.ext he fun _ _ z => z
theorem Rps.ext0 {vs : List V} {ds : List D} {L : List Addr} (r : Rps S H vs ds L) (he : HE0 H H') : Rps S H' vs ds L := r.ext he fun _ _ z => z

theorem Rps.len {vs : List V} {ds : List D} {L : List Addr} (r : Rps S H vs ds L) : vs.length = ds.length := by
  induction ds generalizing vs L with
  | nil => cases r; rfl
  | cons d ds ih =>
    cases r with
    | cons r rs => simp [ih rs]
theorem Rps.get {vs : List V} {ds : List D} {L : List Addr} (r : Rps S H vs ds L) {i : Nat} {d : D} (h : ds[i]? = some d) : ∃ v L', vs[i]? = some v ∧ Rp S H v d L' ∧ ∀ a ∈ L', a ∈ L := by
  induction ds generalizing vs L i with
  | nil => simp at h
  | cons e ds ih =>
    cases r with
    | cons r rs =>
      cases i with
      | zero =>
        have : e = d := by simpa using h
        subst this
        exact ⟨_, _, rfl, r, fun a ha => List.mem_append_left _ ha⟩
      | succ i =>
        obtain ⟨v, L', h1, h2, h3⟩ := ih rs (i := i) (by simpa using h)
        exact ⟨v, L', by simpa using h1, h2, fun a ha => List.mem_append_right _ (h3 a ha)⟩
theorem Rps.append {vs ws : List V} {ds es : List D} {L L' : List Addr} (r : Rps S H vs ds L) (r' : Rps S H ws es L') : Rps S H (vs ++ ws) (ds ++ es) (L ++ L') := by
  induction ds generalizing vs L with
  | nil => cases r; simpa using r'
  | cons d ds ih =>
    cases r with
    | cons r rs =>
      rw [List.append_assoc]
      exact .cons r (ih rs)
theorem Rps.one {v : V} {d : D} {L : List Addr} (r : Rp S H v d L) : Rps S H [v] [d] L := by
  have := Rps.cons r (Rps.nil (S := S) (H := H))
  rwa [List.append_nil] at this
theorem Rps.mk {vs : List V} {ds : List D} (hl : vs.length = ds.length) (h : ∀ (i : Nat) (d : D) (v : V), ds[i]? = some d → vs[i]? = some v → ∃ L, Rp S H v d L) : ∃ L, Rps S H vs ds L := by
  induction ds generalizing vs with
  | nil =>
    cases vs with
    | nil => exact ⟨_, .nil⟩
    | cons v vs => simp at hl
  | cons d ds ih =>
    cases vs with
    | nil => simp at hl
    | cons v vs =>
      obtain ⟨L, r⟩ := h 0 d v rfl rfl
      obtain ⟨L', r'⟩ := ih (by simpa using hl) fun i e w h1 h2 => h (i + 1) e w (by simpa using h1) (by simpa using h2)
      exact ⟨_, .cons r r'⟩
end

section
variable {S : Sr} {H : Hp} {v : V} {L : List Addr}
theorem Rp.itup {ds : List D} (r : Rp S H v (.tup ds) L) : ∃ a vs, v = .ref a ∧ H a = some (.tup vs) ∧ Rps S H vs ds L := by
  cases r with
  | tup h rs => exact ⟨_, _, rfl, h, rs⟩
theorem Rp.ilst {ds : List D} (r : Rp S H v (.lst ds) L) : ∃ a vs L', v = .ref a ∧ H a = some (.lst vs) ∧ ¬ S.hid a ∧ Rps S H vs ds L' ∧ L = a :: L' := by
  cases r with
  | lst h n rs => exact ⟨_, _, _, rfl, h, n, rs, rfl⟩
theorem Rp.itupk {ds : List D} (r : Rp S H v (.tupk ds) L) : ∃ a o vs, v = .ref a ∧ H a = some (.frz o (.tup vs)) ∧ o.dict = none ∧ Rps S H vs ds L := by
  cases r with
  | tupk h hd rs => exact ⟨_, _, _, rfl, h, hd, rs⟩
theorem Rp.iint {i : Int} (r : Rp S H v (.int i) L) : v = .int i ∧ L = [] := by cases r; exact ⟨rfl, rfl⟩
theorem Rp.ibl {i : Bool} (r : Rp S H v (.bl i) L) : v = .bl i ∧ L = [] := by cases r; exact ⟨rfl, rfl⟩
theorem Rp.istr {i : Str} (r : Rp S H v (.str i) L) : v = .str i ∧ L = [] := by cases r; exact ⟨rfl, rfl⟩
theorem Rp.inon (r : Rp S H v .non L) : v = .non ∧ L = [] := by cases r; exact ⟨rfl, rfl⟩
end

/-! ### data without lists -/
mutual
def D.lf : D → Bool
  | .lst _ => false
  | .tup xs => lfs xs
  | .tupk xs => lfs xs
  | _ => true
def lfs : List D → Bool
  | [] => true
  | d :: ds => d.lf && lfs ds
end
mutual
theorem Rp.nil {S : Sr} {H : Hp} {v : V} {d : D} {L : List Addr} (r : Rp S H v d L) (h : d.lf = true) : L = [] := by
  cases r with
  | non => rfl
  | bl => rfl
  | int => rfl
  | str => rfl
  | src => rfl
  | dct => rfl
  | tup _ rs => exact rs.nils (by simpa [D.lf] using h)
  | tupk _ _ rs => exact rs.nils (by simpa [D.lf] using h)
  | lst => simp [D.lf] at h
theorem Rps.nils {S : Sr} {H : Hp} {vs : List V} {ds : List D} {L : List Addr} (r : Rps S H vs ds L) (h : lfs ds = true) : L = [] := by
  cases r with
  | nil => rfl
  | cons r rs =>
    simp only [lfs, Bool.and_eq_true] at h
    rw [r.nil h.1, rs.nils h.2]
    rfl
end

/-! ### the source -/
structure SrcOk (S : Sr) (H : Hp) (st : Src) : Prop where
  ne : S.q ≠ S.dA
  at_ : H S.dA = some (.lst [.ref S.q, .int st.pos, .int st.big, .int st.seed])
  cp : H S.q = some (.lst (st.script.map V.int))
  tr : S.tr H
theorem SrcOk.ext0 {S : Sr} {H H' : Hp} {st : Src} (h : SrcOk S H st) (he : HE0 H H') : SrcOk S H' st := ⟨h.ne, he.lst _ _ (fun z => z) h.at_, he.lst _ _ (fun z => z) h.cp, fun b hb z => h.tr b hb (he.new b z)⟩

/-! ### the monad: a draw may be taken; none: the run is not served -/
def M (α : Type) : Type := Src → Option (α × Src)
@[inline] def M.ret {α : Type} (a : α) : M α := fun s => some (a, s)
@[inline] def M.bd {α β : Type} (m : M α) (f : α → M β) : M β := fun s => match m s with
  | none => none
  | some (a, s') => f a s'
instance : Monad M where
  pure := M.ret
  bind := M.bd
/-- from an option -/
@[inline] def M.of {α : Type} : Option α → M α
  | none => fun _ => none
  | some a => M.ret a
def M.no {α : Type} : M α := fun _ => none
theorem bd_some {α β : Type} {m : M α} {f : α → M β} {s s' : Src} {a : α} (h : m s = some (a, s')) : (m.bd f) s = f a s' := by
  show (match m s with | none => none | some (a, s') => f a s') = _
  rw [h]
theorem bd_inv {α β : Type} {m : M α} {f : α → M β} {s s'' : Src} {b : β} (h : (m.bd f) s = some (b, s'')) : ∃ a s', m s = some (a, s') ∧ f a s' = some (b, s'') := by
  have h' : (match m s with | none => none | some (a, s') => f a s') = some (b, s'') := h
  cases e : m s with
  | none => rw [e] at h'; cases h'
  | some p =>
    obtain ⟨a, s'⟩ := p
    rw [e] at h'
    exact ⟨a, s', rfl, h'⟩
theorem of_inv {α : Type} {o : Option α} {s s' : Src} {a : α} (h : M.of o s = some (a, s')) : o = some a ∧ s' = s := by
  cases o with
  | none => cases h
  | some b =>
    have h' : some (b, s) = some (a, s') := h
    cases h'
    exact ⟨rfl, rfl⟩
theorem ret_inv {α : Type} {s s' : Src} {a b : α} (h : M.ret b s = some (a, s')) : b = a ∧ s' = s := by
  have h' : some (b, s) = some (a, s') := h
  cases h'
  exact ⟨rfl, rfl⟩

/-! ### slots -/
inductive Sl where
  | no | rd (d : D) | ow (d : D)
def Sl.d : Sl → Option D
  | .no => none
  | .rd d => some d
  | .ow d => some d
abbrev Ev := List Sl
def gt (δ : Ev) (i : Nat) : Option D := (δ[i]?).bind Sl.d
structure Rs (S : Sr) (H : Hp) (σ : L2.St) (δ : Ev) : Prop where
  len : σ.length = δ.length
  at_ : ∀ i d, gt δ i = some d → ∃ v L, σ[i]? = some (some v) ∧ Rp S H v d L
theorem Rs.extS {S : Sr} {H H' : Hp} {σ : L2.St} {δ : Ev} (r : Rs S H σ δ) (he : Ext S H H') : Rs S H' σ δ := ⟨r.len, fun i d h => by
  obtain ⟨v, L, h1, h2⟩ := r.at_ i d h
  exact ⟨v, L, h1, h2.extS he⟩⟩
theorem Rs.ext0 {S : Sr} {H H' : Hp} {σ : L2.St} {δ : Ev} (r : Rs S H σ δ) (he : HE0 H H') : Rs S H' σ δ := r.extS he.up0
theorem gt_set {δ : Ev} {i j : Nat} {s : Sl} : gt (δ.set i s) j = if i = j then (if i < δ.length then s.d else none) else gt δ j := by
  unfold gt
  by_cases h : i = j
  · subst h
    rw [if_pos rfl]
    by_cases hi : i < δ.length
    · rw [List.getElem?_set_self hi, if_pos hi]; rfl
    · rw [if_neg hi, List.getElem?_eq_none (by simpa using hi)]; rfl
  · rw [List.getElem?_set_ne h, if_neg h]
theorem gt_lt {δ : Ev} {i : Nat} {d : D} (h : gt δ i = some d) : i < δ.length := by
  unfold gt at h
  by_cases hi : i < δ.length
  · exact hi
  · rw [List.getElem?_eq_none (by simpa using hi)] at h; cases h
theorem Rs.set {S : Sr} {H : Hp} {σ : L2.St} {δ : Ev} {i : Nat} {v : V} {s : Sl} (r : Rs S H σ δ) (h : ∀ d, s.d = some d → ∃ L, Rp S H v d L) : Rs S H (σ.set i (some v)) (δ.set i s) :=
  ⟨by simp [r.len], fun j d e => by
    rw [gt_set] at e
    by_cases hij : i = j
    · subst hij
      rw [if_pos rfl] at e
      by_cases hi : i < δ.length
      · rw [if_pos hi] at e
        obtain ⟨L, q⟩ := h d e
        exact ⟨v, L, by rw [List.getElem?_set_self (by rw [r.len]; exact hi)], q⟩
      · rw [if_neg hi] at e; cases e
    · rw [if_neg hij] at e
      obtain ⟨w, L, h1, h2⟩ := r.at_ j d e
      exact ⟨w, L, by rw [List.getElem?_set_ne hij]; exact h1, h2⟩⟩

/-! ### judgements of expressions over data -/
abbrev FE := Ev → M D
def tD (f : FE) : TE := fun σ H Q => ∃ S δ st d st', Rs S H σ δ ∧ SrcOk S H st ∧ f δ st = some (d, st') ∧ ∀ v H' L, Ext S H H' → SrcOk S H' st' → Rp S H' v d L → Q v H'
def tBo (f : Ev → M Bool) : TT := fun σ H Q => ∃ S δ st d st', Rs S H σ δ ∧ SrcOk S H st ∧ f δ st = some (d, st') ∧ ∀ H', Ext S H H' → SrcOk S H' st' → Q d H'
def tAs (f : Ev → M (List D)) : TA := fun σ H Q => ∃ S δ st ds st', Rs S H σ δ ∧ SrcOk S H st ∧ f δ st = some (ds, st') ∧ ∀ vs H' L, Ext S H H' → SrcOk S H' st' → Rps S H' vs ds L → Q vs H'
abbrev DE (X : Cx) (e : Expr) (f : FE) : Prop := PE X e (tD f)
abbrev DT (X : Cx) (e : Expr) (f : Ev → M Bool) : Prop := PT X e (tBo f)
abbrev DW (X : Cx) (e : Expr) (f : Ev → M Bool) : Prop := PW X e (tBo f)
abbrev DA (X : Cx) (es : List Expr) (f : Ev → M (List D)) : Prop := PA X es (tAs f)
theorem _root_.L2.PE.imp {X : Cx} {e : Expr} {t t' : TE} (p : PE X e t) (h : ∀ σ H Q, t' σ H Q → t σ H Q) : PE X e t' := ⟨fun pins s σ H Q I w => p.run pins s σ H Q I (h σ H Q w)⟩
theorem _root_.L2.PT.imp {X : Cx} {e : Expr} {t t' : TT} (p : PT X e t) (h : ∀ σ H Q, t' σ H Q → t σ H Q) : PT X e t' := ⟨fun pins s σ H Q I w => p.run pins s σ H Q I (h σ H Q w)⟩
theorem _root_.L2.PW.imp {X : Cx} {e : Expr} {t t' : TT} (p : PW X e t) (h : ∀ σ H Q, t' σ H Q → t σ H Q) : PW X e t' := ⟨fun wh pins s σ H Q I w => p.run wh pins s σ H Q I (h σ H Q w)⟩
theorem _root_.L2.PA.imp {X : Cx} {e : List Expr} {t t' : TA} (p : PA X e t) (h : ∀ σ H Q, t' σ H Q → t σ H Q) : PA X e t' := ⟨fun pos pins s σ H Q I w => p.run pos pins s σ H Q I (h σ H Q w)⟩
theorem _root_.L2.PS.imp {X : Cx} {e : Stmt} {t t' : TS} (p : PS X e t) (h : ∀ σ H Q, t' Q σ H → t Q σ H) : PS X e t' := ⟨fun pins s σ H Q I w => p.run pins s σ H Q I (h σ H Q w)⟩
theorem _root_.L2.PSs.imp {X : Cx} {e : List Stmt} {t t' : TS} (p : PSs X e t) (h : ∀ σ H Q, t' Q σ H → t Q σ H) : PSs X e t' := ⟨fun pins s σ H Q I w => p.run pins s σ H Q I (h σ H Q w)⟩
theorem _root_.L2.PI.imp {X : Cx} {tg e : Expr} {t t' : TI} (p : PI X tg e t) (h : ∀ σ H Q, t' σ H Q → t σ H Q) : PI X tg e t' := ⟨fun pins s σ H Q I w => p.run pins s σ H Q I (h σ H Q w)⟩
theorem _root_.L2.OpR.imp {X : Cx} {f : Value → Value → Sem Value} {r r' : R2} (p : OpR X f r) (h : ∀ x y H Q, r' x y H Q → r x y H Q) : OpR X f r' := fun pins s σ H x y v u Q I rx ry w => p pins s σ H x y v u Q I rx ry (h x y H Q w)
theorem _root_.L2.UnR.imp {X : Cx} {f : Value → Sem Value} {r r' : V → Hp → VK → Prop} (p : UnR X f r) (h : ∀ x H Q, r' x H Q → r x H Q) : UnR X f r' := fun pins s σ H x v Q I rx w => p pins s σ H x v Q I rx (h x H Q w)
theorem _root_.L2.CallR.imp {X : Cx} {f : Value} {r r' : List V → Hp → VK → Prop} (p : CallR X f r) (h : ∀ x H Q, r' x H Q → r x H Q) : CallR X f r' := fun pins s σ H x v Q I rx w => p pins s σ H x v Q I rx (h x H Q w)
theorem _root_.L2.IxR.imp {X : Cx} {r r' : R2} (p : IxR X r) (h : ∀ x y H Q, r' x y H Q → r x y H Q) : IxR X r' := fun value slice pins s σ H x y v u Q I rx ry w hs => p value slice pins s σ H x y v u Q I rx ry (h x y H Q w) hs

def eVar (i : Nat) : FE := fun δ => M.of (gt δ i)
def eC (d : D) : FE := fun _ => M.ret d
def e2 (o : D → D → Option D) (f g : FE) : FE := fun δ => (f δ).bd fun a => (g δ).bd fun b => M.of (o a b)
def e1 (o : D → Option D) (f : FE) : FE := fun δ => (f δ).bd fun a => M.of (o a)
def eAs0 : Ev → M (List D) := fun _ => M.ret []
def eAs (f : FE) (g : Ev → M (List D)) : Ev → M (List D) := fun δ => (f δ).bd fun a => (g δ).bd fun b => M.ret (a :: b)
def eTup (g : Ev → M (List D)) : FE := fun δ => (g δ).bd fun ds => M.of (if ds.length ≤ 1000000 then some (.tup ds) else none)
def eLst (g : Ev → M (List D)) : FE := fun δ => (g δ).bd fun ds => M.of (if ds.length ≤ 1000000 then some (.lst ds) else none)
def eIf (c : Ev → M Bool) (f g : FE) : FE := fun δ => (c δ).bd fun b => if b = true then f δ else g δ
/-- a value's operation over data: the source and what stands is kept -/
def rD2 (o : D → D → Option D) : R2 := fun x y H Q => ∃ S a b d La Lb, S.tr H ∧ Rp S H x a La ∧ Rp S H y b Lb ∧ o a b = some d ∧ ∀ v H' L, HE0 H H' → Rp S H' v d L → Q v H'
def rD1 (o : D → Option D) : V → Hp → VK → Prop := fun x H Q => ∃ S a d La, S.tr H ∧ Rp S H x a La ∧ o a = some d ∧ ∀ v H' L, HE0 H H' → Rp S H' v d L → Q v H'
def rDs (o : List D → Option D) : List V → Hp → VK → Prop := fun xs H Q => ∃ S ds d La, S.tr H ∧ Rps S H xs ds La ∧ o ds = some d ∧ ∀ v H' L, HE0 H H' → Rp S H' v d L → Q v H'

theorem size_ok {n : Nat} (h : n ≤ 1000000) : n ≤ sizeLine := by rw [sizeLine_eq]; omega

section
variable {X : Cx} {a b c : Expr} {f g h : FE} {pos : Pos}
theorem d_var (i : Nat) {x : Str} {pos : Pos} (hN : X.N[i]? = some x := by rfl) (hv : Vis X.env.scope x := by first | exact Or.inl rfl | exact Or.inr (Or.inl rfl) | exact Or.inr (Or.inr rfl)) (hd : (x == ("__debug__" : Str)) = false := by decide)
    (hcd : (x == ("__classdict__" : Str)) = false := by decide) : DE X (.Name x pos) (eVar i) := (pe_var hN hv hd hcd).imp fun σ H Q ⟨S, δ, st, d, st', rs, so, e, q⟩ => by
  obtain ⟨e1, e2⟩ := of_inv e
  subst e2
  obtain ⟨v, L, h1, h2⟩ := rs.at_ i d e1
  exact ⟨v, h1, q v H L HE.refl so h2⟩
theorem d_const {d : D} {v : V} {e : Expr} (p : PE X e (tC v)) (r : ∀ S H, Rp S H v d []) : DE X e (eC d) := p.imp fun σ H Q ⟨S, δ, st, d', st', rs, so, e, q⟩ => by
  obtain ⟨e1, e2⟩ := ret_inv e
  subst e1 e2
  exact q v H [] HE.refl so (r S H)
theorem d_int {i j pos} : DE X (.Constant (.int i) j pos) (eC (.int i)) := d_const pe_int fun _ _ => .int i
theorem d_bl {b j pos} : DE X (.Constant (.bool b) j pos) (eC (.bl b)) := d_const pe_bl fun _ _ => .bl b
theorem d_non {j pos} : DE X (.Constant .none j pos) (eC .non) := d_const pe_non fun _ _ => .non
theorem d_str {x j pos} : DE X (.Constant (.str x) j pos) (eC (.str x)) := d_const pe_str fun _ _ => .str x
/-- a module's constant -/
theorem d_glob {x : Str} {v : V} {d : D} {u : Value} {pos : Pos} (hg : Gl X x) (hm : X.mg x = some u) (r : RelV v u) (rd : ∀ S H, Rp S H v d []) (hd : (x == ("__debug__" : Str)) = false := by decide) : DE X (.Name x pos) (eC d) := d_const (pe_glob hg hm r hd) rd

theorem t2_imp {o : D → D → Option D} : ∀ σ H Q, tD (e2 o f g) σ H Q → tOp (rD2 o) (tD f) (tD g) σ H Q := fun σ H Q ⟨S, δ, st, d, st', rs, so, e, q⟩ => by
  obtain ⟨x, s1, ea, e⟩ := bd_inv e
  obtain ⟨y, s2, eb, e⟩ := bd_inv e
  obtain ⟨eo, es⟩ := of_inv e
  subst es
  refine ⟨S, δ, st, x, s1, rs, so, ea, fun v H1 L1 x1 so1 r1 => ⟨S, δ, s1, y, _, rs.extS x1, so1, eb, fun w H2 L2 x2 so2 r2 => ⟨S, x, y, d, L1, L2, so2.tr, r1.extS x2, r2, eo, fun z H3 L3 x3 r3 => q z H3 L3 (x1.trans (x2.trans x3.up0)) (so2.ext0 x3) r3⟩⟩⟩
theorem d_op {op : Operator} {o : D → D → Option D} (ho : OpR X (binaryOp op) (rD2 o)) (ha : DE X a f) (hb : DE X b g) : DE X (.BinOp a op b pos) (e2 o f g) := (pe_op ho ha hb).imp t2_imp
theorem d_ix {o : D → D → Option D} (ho : IxR X (rD2 o)) (ha : DE X a f) (hb : DE X b g) (hs : PlainIx b := by intro _ _; rfl) : DE X (.Subscript a b pos) (e2 o f g) := (pe_ix ho ha hb hs).imp t2_imp
theorem d_cmp {op : CmpOp} {o : D → D → Option D} (ho : OpR X (compareOp op) (rD2 o)) (ha : DE X a f) (hb : DE X b g) (hm : behindInMarks op b = false := by first | exact nomark _ | rfl) : DE X (.Compare a [op] [b] pos) (e2 o f g) := (pe_cmpR ho ha hb hm).imp t2_imp
theorem d_un {op : UnaryOp} {o : D → Option D} (ho : UnR X (unaryOp op) (rD1 o)) (ha : DE X a f) : DE X (.UnaryOp op a pos) (e1 o f) := (pe_un ho ha).imp fun σ H Q ⟨S, δ, st, d, st', rs, so, e, q⟩ => by
  obtain ⟨x, s1, ea, e⟩ := bd_inv e
  obtain ⟨eo, es⟩ := of_inv e
  subst es
  exact ⟨S, δ, st, x, _, rs, so, ea, fun v H1 L1 x1 so1 r1 => ⟨S, x, d, L1, so1.tr, r1, eo, fun z H3 L3 x3 r3 => q z H3 L3 (x1.trans x3.up0) (so1.ext0 x3) r3⟩⟩

/-! tests -/
/-- a bool as a test -/
def bOf (f : FE) : Ev → M Bool := fun δ => (f δ).bd fun d => M.of (match d with | .bl k => some k | _ => none)
theorem bOf_inv {f : FE} {δ : Ev} {st st' : Src} {k : Bool} (h : bOf f δ st = some (k, st')) : f δ st = some (.bl k, st') := by
  obtain ⟨d, s1, ea, e⟩ := bd_inv h
  obtain ⟨eo, es⟩ := of_inv e
  subst es
  cases d <;> simp at eo
  subst eo
  exact ea
theorem tB_of {f : FE} : ∀ σ H Q, tBo (bOf f) σ H Q → tTest (tD f) σ H Q := fun σ H Q ⟨S, δ, st, d, st', rs, so, e, q⟩ => by
  refine ⟨S, δ, st, _, st', rs, so, bOf_inv e, fun v H1 L1 x1 so1 r1 => ?_⟩
  cases r1
  exact ⟨d, rfl, q H1 x1 so1⟩
theorem dt_cmp {op : CmpOp} {o : D → D → Option D} (ho : OpR X (compareOp op) (rD2 o)) (ha : DE X a f) (hb : DE X b g) (hm : behindInMarks op b = false := by first | exact nomark _ | rfl) : DT X (.Compare a [op] [b] pos) (bOf (e2 o f g)) :=
  (pt_cmpR ho ha hb hm).imp fun σ H Q w => by
    obtain ⟨S, δ, st, d, st', rs, so, e, q⟩ := tB_of σ H Q w
    exact t2_imp σ H _ ⟨S, δ, st, d, st', rs, so, e, q⟩
theorem dt_val {e : Expr} (he : DE X e f) (h : ∀ whole, isTrue e X.env whole = (do let v ← whole; standAt e.pos; holding [v] (truthy v)) := by intro _; rfl) : DT X e (bOf f) :=
  (pt_val he h).imp fun σ H Q w => tB_of σ H Q w
/-- truth of data -/
def truD : D → Option Bool
  | .non => some false
  | .bl b => some b
  | .int i => some (i != 0)
  | .tup xs => some (!xs.isEmpty)
  | .lst xs => some (!xs.isEmpty)
  | .tupk xs => some (!xs.isEmpty)
  | _ => none
theorem Rps.isEmpty {S : Sr} {H : Hp} {vs : List V} {ds : List D} {L : List Addr} (r : Rps S H vs ds L) : vs.isEmpty = ds.isEmpty := by
  cases r <;> rfl
theorem truD_ok {K : PySem.W.Frag} {S : Sr} {H : Hp} {v : V} {d : D} {L : List Addr} {k : Bool} (r : Rp S H v d L) (h : truD d = some k) : TruV K v H k := by
  cases r with
  | non => cases h; rfl
  | bl => cases h; rfl
  | int => cases h; rfl
  | str => cases h
  | src => cases h
  | dct => cases h
  | tup e rs =>
    have : k = !_ := (Option.some.inj h).symm
    exact .inr (.inl ⟨_, SqT.of e, by rw [rs.isEmpty]; exact this⟩)
  | tupk e _ rs =>
    have : k = !_ := (Option.some.inj h).symm
    exact .inr (.inl ⟨_, .inl (.inr ⟨_, e⟩), by rw [rs.isEmpty]; exact this⟩)
  | lst e n rs =>
    have : k = !_ := (Option.some.inj h).symm
    exact .inl ⟨_, SqL.of e, by rw [rs.isEmpty]; exact this⟩
def bTr (f : FE) : Ev → M Bool := fun δ => (f δ).bd fun d => M.of (truD d)
theorem dt_tr {e : Expr} (he : DE X e f) (h : ∀ whole, isTrue e X.env whole = (do let v ← whole; standAt e.pos; holding [v] (truthy v)) := by intro _; rfl) : DT X e (bTr f) :=
  (pt_truth he h).imp fun σ H Q ⟨S, δ, st, d, st', rs, so, e, q⟩ => by
    obtain ⟨x, s1, ea, e⟩ := bd_inv e
    obtain ⟨eo, es⟩ := of_inv e
    subst es
    exact ⟨S, δ, st, x, _, rs, so, ea, fun v H1 L1 x1 so1 r1 => ⟨d, truD_ok r1 eo, q H1 x1 so1⟩⟩
def bAnd (f g : Ev → M Bool) : Ev → M Bool := fun δ => (f δ).bd fun k => if k = true then g δ else M.ret false
def bOr (f g : Ev → M Bool) : Ev → M Bool := fun δ => (f δ).bd fun k => if k = true then M.ret true else g δ
def bNot (f : Ev → M Bool) : Ev → M Bool := fun δ => (f δ).bd fun k => M.ret (!k)
variable {p q : Ev → M Bool} {rest : List Expr}
theorem dw_and1 (ha : DT X a p) : DW X (.BoolOp .And [a] pos) p := pw_and1 ha
theorem dw_or1 (ha : DT X a p) : DW X (.BoolOp .Or [a] pos) p := pw_or1 ha
theorem dw_and (ha : DT X a p) (hb : DW X (.BoolOp .And (b :: rest) pos) q) : DW X (.BoolOp .And (a :: b :: rest) pos) (bAnd p q) := (pw_and ha hb).imp fun σ H Q ⟨S, δ, st, d, st', rs, so, e, w⟩ => by
  obtain ⟨x, s1, ea, e⟩ := bd_inv e
  refine ⟨S, δ, st, x, s1, rs, so, ea, fun H1 x1 so1 => ?_⟩
  cases x with
  | true =>
    rw [if_pos rfl] at e ⊢
    exact ⟨S, δ, s1, d, st', rs.extS x1, so1, e, fun H2 x2 so2 => w H2 (x1.trans x2) so2⟩
  | false =>
    rw [if_neg Bool.false_ne_true] at e ⊢
    obtain ⟨e1, e2⟩ := ret_inv e
    subst e1 e2
    exact w H1 x1 so1
theorem dw_or (ha : DT X a p) (hb : DW X (.BoolOp .Or (b :: rest) pos) q) : DW X (.BoolOp .Or (a :: b :: rest) pos) (bOr p q) := (pw_or ha hb).imp fun σ H Q ⟨S, δ, st, d, st', rs, so, e, w⟩ => by
  obtain ⟨x, s1, ea, e⟩ := bd_inv e
  refine ⟨S, δ, st, x, s1, rs, so, ea, fun H1 x1 so1 => ?_⟩
  cases x with
  | true =>
    rw [if_pos rfl] at e ⊢
    obtain ⟨e1, e2⟩ := ret_inv e
    subst e1 e2
    exact w H1 x1 so1
  | false =>
    rw [if_neg Bool.false_ne_true] at e ⊢
    exact ⟨S, δ, s1, d, st', rs.extS x1, so1, e, fun H2 x2 so2 => w H2 (x1.trans x2) so2⟩
theorem dt_not (ha : DT X a p) : DT X (.UnaryOp .Not a pos) (bNot p) := (pt_not ha).imp fun σ H Q ⟨S, δ, st, d, st', rs, so, e, w⟩ => by
  obtain ⟨x, s1, ea, e⟩ := bd_inv e
  obtain ⟨e1, e2⟩ := ret_inv e
  subst e1 e2
  exact ⟨S, δ, st, x, _, rs, so, ea, fun H1 x1 so1 => w H1 x1 so1⟩
/-- and, or, not as values of bools -/
def eAnd (f g : FE) : FE := fun δ => (f δ).bd fun d => match d with | .bl true => g δ | .bl false => M.ret (.bl false) | _ => M.no
def eOr (f g : FE) : FE := fun δ => (f δ).bd fun d => match d with | .bl true => M.ret (.bl true) | .bl false => g δ | _ => M.no
def eNot (f : FE) : FE := e1 (fun d => match d with | .bl k => some (.bl (!k)) | _ => none) f
theorem d_one {op} (h : DE X a f) : DE X (.BoolOp op [a] pos) f := pe_one h
theorem d_and (ha : DE X a f) (hb : DE X (.BoolOp .And (b :: rest) pos) g) : DE X (.BoolOp .And (a :: b :: rest) pos) (eAnd f g) := (pe_and ha hb).imp fun σ H Q ⟨S, δ, st, d, st', rs, so, e, w⟩ => by
  obtain ⟨x, s1, ea, e⟩ := bd_inv e
  refine ⟨S, δ, st, x, s1, rs, so, ea, fun v H1 L1 x1 so1 r1 => ?_⟩
  cases x with
  | bl k =>
    cases r1
    refine ⟨k, rfl, ?_⟩
    cases k with
    | true =>
      rw [if_pos rfl]
      exact ⟨S, δ, s1, d, st', rs.extS x1, so1, e, fun v H2 L x2 so2 r => w v H2 L (x1.trans x2) so2 r⟩
    | false =>
      rw [if_neg Bool.false_ne_true]
      obtain ⟨e1, e2⟩ := ret_inv e
      subst e1 e2
      exact w _ H1 [] x1 so1 (.bl false)
  | _ => cases e
theorem d_or (ha : DE X a f) (hb : DE X (.BoolOp .Or (b :: rest) pos) g) : DE X (.BoolOp .Or (a :: b :: rest) pos) (eOr f g) := (pe_or ha hb).imp fun σ H Q ⟨S, δ, st, d, st', rs, so, e, w⟩ => by
  obtain ⟨x, s1, ea, e⟩ := bd_inv e
  refine ⟨S, δ, st, x, s1, rs, so, ea, fun v H1 L1 x1 so1 r1 => ?_⟩
  cases x with
  | bl k =>
    cases r1
    refine ⟨k, rfl, ?_⟩
    cases k with
    | false =>
      rw [if_neg Bool.false_ne_true]
      exact ⟨S, δ, s1, d, st', rs.extS x1, so1, e, fun v H2 L x2 so2 r => w v H2 L (x1.trans x2) so2 r⟩
    | true =>
      rw [if_pos rfl]
      obtain ⟨e1, e2⟩ := ret_inv e
      subst e1 e2
      exact w _ H1 [] x1 so1 (.bl true)
  | _ => cases e
theorem d_not (ha : DE X a f) : DE X (.UnaryOp .Not a pos) (eNot f) := (pe_not ha).imp fun σ H Q ⟨S, δ, st, d, st', rs, so, e, w⟩ => by
  obtain ⟨x, s1, ea, e⟩ := bd_inv e
  obtain ⟨eo, es⟩ := of_inv e
  subst es
  refine ⟨S, δ, st, x, _, rs, so, ea, fun v H1 L1 x1 so1 r1 => ?_⟩
  cases x with
  | bl k =>
    cases r1
    have : D.bl (!k) = d := Option.some.inj eo
    subst this
    exact ⟨k, rfl, w _ H1 [] x1 so1 (.bl _)⟩
  | _ => cases eo
theorem d_if {c : Expr} (hc : DT X c p) (ha : DE X a f) (hb : DE X b g) : DE X (.IfExp c a b pos) (eIf p f g) := (pe_ifExp hc ha hb).imp fun σ H Q ⟨S, δ, st, d, st', rs, so, e, w⟩ => by
  obtain ⟨x, s1, ea, e⟩ := bd_inv e
  refine ⟨S, δ, st, x, s1, rs, so, ea, fun H1 x1 so1 => ?_⟩
  cases x with
  | true =>
    rw [if_pos rfl] at e ⊢
    exact ⟨S, δ, s1, d, st', rs.extS x1, so1, e, fun v H2 L x2 so2 r => w v H2 L (x1.trans x2) so2 r⟩
  | false =>
    rw [if_neg Bool.false_ne_true] at e ⊢
    exact ⟨S, δ, s1, d, st', rs.extS x1, so1, e, fun v H2 L x2 so2 r => w v H2 L (x1.trans x2) so2 r⟩

/-! displays -/
variable {es : List Expr} {fs : Ev → M (List D)}
theorem da_nil : DA X [] eAs0 := pa_nil.imp fun σ H Q ⟨S, δ, st, ds, st', rs, so, e, w⟩ => by
  obtain ⟨e1, e2⟩ := ret_inv e
  subst e1 e2
  exact w [] H [] HE.refl so .nil
theorem da_cons (ha : DE X a f) (hr : DA X es fs) (hs : starEach (a :: es) X.env = (false, eval a X.env) :: starEach es X.env := by rfl) : DA X (a :: es) (eAs f fs) := (pa_cons ha hr hs).imp fun σ H Q ⟨S, δ, st, ds, st', rs, so, e, w⟩ => by
  obtain ⟨x, s1, ea, e⟩ := bd_inv e
  obtain ⟨y, s2, eb, e⟩ := bd_inv e
  obtain ⟨e1, e2⟩ := ret_inv e
  subst e1 e2
  exact ⟨S, δ, st, x, s1, rs, so, ea, fun v H1 L1 x1 so1 r1 => ⟨S, δ, s1, y, _, rs.extS x1, so1, eb, fun vs H2 L2 x2 so2 r2 => w (v :: vs) H2 _ (x1.trans x2) so2 (.cons (r1.extS x2) r2)⟩⟩
theorem d_tup {x1} (h : DA X es fs) : DE X (.Tuple es x1 pos) (eTup fs) := (pe_tup h).imp fun σ H Q ⟨S, δ, st, d, st', rs, so, e, w⟩ => by
  obtain ⟨ds, s1, ea, e⟩ := bd_inv e
  obtain ⟨eo, es'⟩ := of_inv e
  subst es'
  by_cases hz : ds.length ≤ 1000000
  · rw [if_pos hz] at eo
    have : D.tup ds = d := Option.some.inj eo
    subst this
    refine ⟨S, δ, st, ds, _, rs, so, ea, fun vs H1 L1 x1 so1 r1 => ⟨size_ok (by rw [r1.len]; exact hz), fun p np => ?_⟩⟩
    have he : HE0 H1 (upd H1 p (.tup vs)) := HE.fresh np
    exact w (.ref p) _ L1 (x1.trans he.up0) (so1.ext0 he) (.tup upd_same (r1.ext0 he))
  · rw [if_neg hz] at eo; cases eo
theorem d_lst (h : DA X es fs) : DE X (.List es pos) (eLst fs) := (pe_lst h).imp fun σ H Q ⟨S, δ, st, d, st', rs, so, e, w⟩ => by
  obtain ⟨ds, s1, ea, e⟩ := bd_inv e
  obtain ⟨eo, es'⟩ := of_inv e
  subst es'
  by_cases hz : ds.length ≤ 1000000
  · rw [if_pos hz] at eo
    have : D.lst ds = d := Option.some.inj eo
    subst this
    refine ⟨S, δ, st, ds, _, rs, so, ea, fun vs H1 L1 x1 so1 r1 => ⟨size_ok (by rw [r1.len]; exact hz), fun p np => ?_⟩⟩
    have he : HE0 H1 (upd H1 p (.lst vs)) := HE.fresh np
    exact w (.ref p) _ (p :: L1) (x1.trans he.up0) (so1.ext0 he) (.lst upd_same (fun z => so1.tr _ z np) (r1.ext0 he))
  · rw [if_neg hz] at eo; cases eo
end
end DL
set_option Elab.async false
set_option linter.all false
set_option maxRecDepth 100000
set_option maxHeartbeats 4000000
/-! DL2: operations over data: arithmetic, comparisons, subscripts, slices, built-in calls. -/
namespace DL
open PySem PySem.Spec PyProof.Rows L2

/-! ### the operations -/
def dAdd : D → D → Option D
  | .int i, .int j => some (.int (i + j))
  | .tup xs, .tup ys => if xs.length + ys.length ≤ 1000000 then some (.tup (xs ++ ys)) else none
  | .lst xs, .lst ys => if xs.length + ys.length ≤ 1000000 then some (.lst (xs ++ ys)) else none
  | _, _ => none
def dSub : D → D → Option D
  | .int i, .int j => some (.int (i - j))
  | _, _ => none
def mulC (i j : Int) : Bool := decide (i.natAbs < 2 ^ 64) || decide (j.natAbs < 2 ^ 64) || decide (i.natAbs.log2 + j.natAbs.log2 < 1000000)
def dMul : D → D → Option D
  | .int i, .int j => if mulC i j = true then some (.int (i * j)) else none
  | .lst xs, .int k => if -1000 ≤ k ∧ k ≤ 1000 ∧ xs.length ≤ 1000 ∧ lfs xs = true then some (.lst (List.replicate k.toNat xs).flatten) else none
  | _, _ => none
def dDiv : D → D → Option D
  | .int i, .int j => if 0 < j ∧ j.natAbs.log2 < 9000 then some (.int (i / j)) else none
  | _, _ => none
def dMod : D → D → Option D
  | .int i, .int j => if 0 < j then some (.int (i % j)) else none
  | _, _ => none
def dPow : D → D → Option D
  | .int i, .int j => if 0 ≤ j ∧ j ≤ 1000 ∧ i.natAbs < 2 ^ 64 then some (.int (i ^ j.toNat)) else none
  | _, _ => none
def dNeg : D → Option D
  | .int i => some (.int (-i))
  | _ => none
def dLt : D → D → Option D
  | .int i, .int j => some (.bl (decide (i < j)))
  | _, _ => none
def dLe : D → D → Option D
  | .int i, .int j => some (.bl (decide (i ≤ j)))
  | _, _ => none
def dGt : D → D → Option D
  | .int i, .int j => some (.bl (decide (j < i)))
  | _, _ => none
def dGe : D → D → Option D
  | .int i, .int j => some (.bl (decide (j ≤ i)))
  | _, _ => none

mutual
def D.py : D → PyData
  | .non => .none
  | .bl b => .bool b
  | .int i => .int i
  | .str x => .str x
  | .tup xs => .tuple (pys xs)
  | .lst xs => .list (pys xs)
  | .src => .none
  | .dct _ => .none
  | .tupk xs => .tuple (pys xs)
def pys : List D → List PyData
  | [] => []
  | d :: ds => d.py :: pys ds
end
/-- data without the source, texts of signs, at most n deep -/
def dOk : Nat → D → Bool
  | _, .non => true
  | _, .bl _ => true
  | _, .int _ => true
  | _, .str x => PyData.strOk x
  | 0, .tup _ => false
  | 0, .lst _ => false
  | 0, .tupk _ => false
  | n + 1, .tupk xs => xs.all (dOk n)
  | n + 1, .tup xs => xs.all (dOk n)
  | n + 1, .lst xs => xs.all (dOk n)
  | _, .src => false
  | _, .dct _ => false
theorem dOk_ok : ∀ (n : Nat) (d : D), dOk n d = true → d.py.canLay0 = true ∧ d.py.depth ≤ n := by
  intro n
  induction n with
  | zero => intro d h; cases d <;> simp_all [dOk, D.py, PyData.canLay0, PyData.depth]
  | succ n ih =>
    have all : ∀ xs : List D, xs.all (dOk n) = true → PyData.canLayAll0 (pys xs) = true ∧ PyData.depthAll (pys xs) ≤ n := by
      intro xs
      induction xs with
      | nil => intro _; simp [pys, PyData.canLayAll0, PyData.depthAll]
      | cons x xs ih2 =>
        intro h
        rw [List.all_cons, Bool.and_eq_true] at h
        obtain ⟨a1, a2⟩ := ih x h.1
        obtain ⟨b1, b2⟩ := ih2 h.2
        simp [pys, PyData.canLayAll0, PyData.depthAll, a1, b1]
        omega
    intro d h
    cases d with
    | tup xs =>
      obtain ⟨a, b⟩ := all xs (by simpa [dOk] using h)
      simp [D.py, PyData.canLay0, PyData.depth, a]; omega
    | lst xs =>
      obtain ⟨a, b⟩ := all xs (by simpa [dOk] using h)
      simp [D.py, PyData.canLay0, PyData.depth, a]; omega
    | tupk xs =>
      obtain ⟨a, b⟩ := all xs (by simpa [dOk] using h)
      simp [D.py, PyData.canLay0, PyData.depth, a]; omega
    | _ => simp_all [dOk, D.py, PyData.canLay0, PyData.depth]
theorem dOk_shaped {d : D} (h : dOk 8 d = true) : SeqAt.shaped d.py = true := by
  obtain ⟨a, b⟩ := dOk_ok 8 d h
  unfold SeqAt.shaped
  rw [a, Bool.true_and]
  exact decide_eq_true (by omega)
mutual
theorem Rp.dp {K : PySem.W.Frag} {S : Sr} {H : Hp} {v : V} {d : D} {L : List Addr} (r : Rp S H v d L) (n : Nat) (h : dOk n d = true) : Dp K H v d.py := by
  cases r with
  | non => rw [D.py]; exact .non
  | bl b => rw [D.py]; exact .bl b
  | int i => rw [D.py]; exact .int i
  | str x => rw [D.py]; exact .str x
  | src => simp [dOk] at h
  | dct => simp [dOk] at h
  | tup e rs =>
    rw [D.py]
    cases n with
    | zero => simp [dOk] at h
    | succ n => exact .tup (SqT.of e) (rs.dp n (by simpa [dOk] using h))
  | tupk e _ rs =>
    rw [D.py]
    cases n with
    | zero => simp [dOk] at h
    | succ n => exact .tup (.inl (.inr ⟨_, e⟩)) (rs.dp n (by simpa [dOk] using h))
  | lst e _ rs =>
    rw [D.py]
    cases n with
    | zero => simp [dOk] at h
    | succ n => exact .lst (SqL.of e) (rs.dp n (by simpa [dOk] using h))
theorem Rps.dp {K : PySem.W.Frag} {S : Sr} {H : Hp} {vs : List V} {ds : List D} {L : List Addr} (r : Rps S H vs ds L) (n : Nat) (h : ∀ x ∈ ds, dOk n x = true) : DpAll K H vs (pys ds) := by
  cases r with
  | nil => rw [pys]; exact .nil
  | cons r rs =>
    rw [pys]
    exact .cons (r.dp n (h _ List.mem_cons_self)) (rs.dp n fun x hx => h x (List.mem_cons_of_mem _ hx))
end
def D.eqv (a b : D) : Bool := PyData.eqv a.py b.py
def dEq (a b : D) : Option D := if (dOk 8 a && dOk 8 b) = true then some (.bl (a.eqv b)) else none
def dNe (a b : D) : Option D := if (dOk 8 a && dOk 8 b) = true then some (.bl (!a.eqv b)) else none
def D.isNon : D → Bool
  | .non => true
  | _ => false
def dIs : D → D → Option D
  | a, .non => some (.bl a.isNon)
  | .bl a, .bl b => some (.bl (decide (a = b)))
  | _, _ => none
def dIsN : D → D → Option D
  | a, .non => some (.bl (!a.isNon))
  | .bl a, .bl b => some (.bl (!decide (a = b)))
  | _, _ => none
def flatD : D → Bool
  | .non => true
  | .bl _ => true
  | .int _ => true
  | .str _ => true
  | _ => false
def eqF : D → D → Bool
  | .non, .non => true
  | .bl a, .bl b => a == b
  | .bl a, .int b => (if a then 1 else 0) == b
  | .int a, .bl b => a == (if b then 1 else 0)
  | .int a, .int b => a == b
  | .str a, .str b => a == b
  | _, _ => false
def D.items : D → Option (List D)
  | .tup xs => some xs
  | .lst xs => some xs
  | .tupk xs => some xs
  | _ => none
def inD (x : D) (xs : List D) : Bool := xs.any fun y => eqF y x
def dIn (a b : D) : Option D := b.items.bind fun xs => if (flatD a && xs.all flatD) = true then some (.bl (inD a xs)) else none
def dNotIn (a b : D) : Option D := b.items.bind fun xs => if (flatD a && xs.all flatD) = true then some (.bl (!inD a xs)) else none
def dIx (a b : D) : Option D := match b with
  | .int i => a.items.bind fun xs => atI xs i
  | _ => none

theorem Rp.flat {S : Sr} {H : Hp} {v : V} {d : D} {L : List Addr} (r : Rp S H v d L) (h : flatD d = true) : flatV v = true := by
  cases r <;> simp_all [flatD, flatV]
theorem Rps.flats {S : Sr} {H : Hp} {vs : List V} {ds : List D} {L : List Addr} (r : Rps S H vs ds L) (h : ds.all flatD = true) : vs.all flatV = true := by
  induction ds generalizing vs L with
  | nil => cases r; rfl
  | cons d ds ih =>
    cases r with
    | cons r rs =>
      rw [List.all_cons, Bool.and_eq_true] at h
      rw [List.all_cons, r.flat h.1, ih rs h.2]; rfl
theorem Rp.eqF {S : Sr} {H : Hp} {v u : V} {d e : D} {L L' : List Addr} (r : Rp S H v d L) (r' : Rp S H u e L') (h : flatD d = true) (h' : flatD e = true) : eqV v u = eqF d e := by
  cases r <;> cases r' <;> simp_all [flatD, eqV, DL.eqF]
theorem Rps.inD {S : Sr} {H : Hp} {u : V} {e : D} {L' : List Addr} (r' : Rp S H u e L') (h' : flatD e = true) {vs : List V} {ds : List D} {L : List Addr} (r : Rps S H vs ds L) (h : ds.all flatD = true) : inV u vs = inD e ds := by
  induction ds generalizing vs L with
  | nil => cases r; rfl
  | cons d ds ih =>
    cases r with
    | cons r rs =>
      rw [List.all_cons, Bool.and_eq_true] at h
      have := ih rs h.2
      unfold inV DL.inD at *
      rw [List.any_cons, List.any_cons, this, r.eqF r' h.1 h']
theorem Rp.items {S : Sr} {H : Hp} {v : V} {d : D} {L : List Addr} {xs : List D} (r : Rp S H v d L) (h : d.items = some xs) : ∃ p vs L', v = .ref p ∧ (Rd H p (.lst vs) ∨ Rd H p (.tup vs)) ∧ Rps S H vs xs L' := by
  cases r with
  | tup e rs => cases h; exact ⟨_, _, _, rfl, .inr (.inl e), rs⟩
  | lst e _ rs => cases h; exact ⟨_, _, _, rfl, .inl (.inl e), rs⟩
  | tupk e _ rs => cases h; exact ⟨_, _, _, rfl, .inr (.inr ⟨_, e⟩), rs⟩
  | _ => cases h
theorem Rps.repl {S : Sr} {H : Hp} {vs : List V} {ds : List D} (r : Rps S H vs ds []) : ∀ n : Nat, Rps S H (List.replicate n vs).flatten (List.replicate n ds).flatten []
  | 0 => by simpa using Rps.nil
  | n + 1 => by
    rw [List.replicate_succ, List.flatten_cons, List.replicate_succ, List.flatten_cons]
    exact r.append (Rps.repl r n)

section
variable {X : Cx}
theorem o_add : OpR X (binaryOp .Add) (rD2 dAdd) := (op_add.or (op_catA.or op_cat)).imp fun x y H Q ⟨S, a, b, d, La, Lb, hn, ra, rb, e, q⟩ => by
  cases a with
  | int i =>
    cases b with
    | int j =>
      cases e
      obtain ⟨rfl, rfl⟩ := ra.iint
      obtain ⟨rfl, rfl⟩ := rb.iint
      exact .inl ⟨i, j, rfl, rfl, q _ _ _ HE.refl (.int _)⟩
    | _ => cases e
  | tup xs =>
    cases b with
    | tup ys =>
      obtain ⟨a, vs, rfl, ea, rsa⟩ := ra.itup
      obtain ⟨b, ws, rfl, eb, rsb⟩ := rb.itup
      have e : (if xs.length + ys.length ≤ 1000000 then some (D.tup (xs ++ ys)) else none) = some d := e
      by_cases hz : xs.length + ys.length ≤ 1000000
      · rw [if_pos hz] at e
        cases e
        refine .inr (.inl ⟨_, _, _, _, rfl, rfl, SqT.of ea, SqT.of eb, size_ok (by rw [rsa.len, rsb.len]; exact hz), fun h0 => ?_, fun _ h0 => ?_, fun _ _ p np => ?_⟩)
        · subst h0
          have hx : xs = [] := List.length_eq_zero_iff.mp rsa.len.symm
          subst hx
          exact q _ _ _ HE.refl (.tup eb rsb)
        · subst h0
          have hx : ys = [] := List.length_eq_zero_iff.mp rsb.len.symm
          subst hx
          exact q _ _ _ HE.refl (.tup ea (by simpa using rsa))
        · exact q _ _ _ (HE.fresh np) (.tup upd_same ((rsa.append rsb).ext0 (HE.fresh np)))
      · rw [if_neg hz] at e; cases e
    | _ => cases e
  | lst xs =>
    cases b with
    | lst ys =>
      obtain ⟨a, vs, L1, rfl, ea, na, rsa, rfl⟩ := ra.ilst
      obtain ⟨b, ws, L2, rfl, eb, nb, rsb, rfl⟩ := rb.ilst
      have e : (if xs.length + ys.length ≤ 1000000 then some (D.lst (xs ++ ys)) else none) = some d := e
      by_cases hz : xs.length + ys.length ≤ 1000000
      · rw [if_pos hz] at e
        cases e
        refine .inr (.inr ⟨_, _, _, _, rfl, rfl, ea, eb, size_ok (by rw [rsa.len, rsb.len]; exact hz), fun p np => ?_⟩)
        exact q _ _ _ (HE.fresh np) (.lst upd_same (fun z => hn _ z np) ((rsa.append rsb).ext0 (HE.fresh np)))
      · rw [if_neg hz] at e; cases e
    | _ => cases e
  | _ => cases e
theorem o_ints {f : Value → Value → Sem Value} {g : Int → Int → V} {o : D → D → Option D} {gD : Int → Int → D} (h : OpR X f (rI0 g)) (ho : ∀ a b d, o a b = some d → ∃ i j, a = .int i ∧ b = .int j ∧ d = gD i j)
    (hg : ∀ S H i j, Rp S H (g i j) (gD i j) []) : OpR X f (rD2 o) := h.imp fun x y H Q ⟨S, a, b, d, La, Lb, hn, ra, rb, e, q⟩ => by
  obtain ⟨i, j, rfl, rfl, rfl⟩ := ho _ _ _ e
  obtain ⟨rfl, rfl⟩ := ra.iint
  obtain ⟨rfl, rfl⟩ := rb.iint
  exact ⟨i, j, rfl, rfl, q _ _ _ HE.refl (hg S H i j)⟩
theorem o_intsC {f : Value → Value → Sem Value} {C : Int → Int → Prop} {g : Int → Int → V} {o : D → D → Option D} {gD : Int → Int → D} (h : OpR X f (rI C g)) (ho : ∀ a b d, o a b = some d → ∃ i j, a = .int i ∧ b = .int j ∧ C i j ∧ d = gD i j)
    (hg : ∀ S H i j, Rp S H (g i j) (gD i j) []) : OpR X f (rD2 o) := h.imp fun x y H Q ⟨S, a, b, d, La, Lb, hn, ra, rb, e, q⟩ => by
  obtain ⟨i, j, rfl, rfl, c, rfl⟩ := ho _ _ _ e
  obtain ⟨rfl, rfl⟩ := ra.iint
  obtain ⟨rfl, rfl⟩ := rb.iint
  exact ⟨i, j, rfl, rfl, c, q _ _ _ HE.refl (hg S H i j)⟩
theorem o_sub : OpR X (binaryOp .Sub) (rD2 dSub) := o_ints (gD := fun i j => .int (i - j)) op_sub (fun a b d e => by cases a <;> cases b <;> cases e; exact ⟨_, _, rfl, rfl, rfl⟩) fun _ _ _ _ => .int _
theorem o_lt : OpR X (compareOp .Lt) (rD2 dLt) := o_ints (gD := fun i j => .bl (decide (i < j))) op_lt (fun a b d e => by cases a <;> cases b <;> cases e; exact ⟨_, _, rfl, rfl, rfl⟩) fun _ _ _ _ => .bl _
theorem o_le : OpR X (compareOp .LtE) (rD2 dLe) := o_ints (gD := fun i j => .bl (decide (i ≤ j))) op_le (fun a b d e => by cases a <;> cases b <;> cases e; exact ⟨_, _, rfl, rfl, rfl⟩) fun _ _ _ _ => .bl _
theorem o_gt : OpR X (compareOp .Gt) (rD2 dGt) := o_ints (gD := fun i j => .bl (decide (j < i))) op_gt (fun a b d e => by cases a <;> cases b <;> cases e; exact ⟨_, _, rfl, rfl, rfl⟩) fun _ _ _ _ => .bl _
theorem o_ge : OpR X (compareOp .GtE) (rD2 dGe) := o_ints (gD := fun i j => .bl (decide (j ≤ i))) op_ge (fun a b d e => by cases a <;> cases b <;> cases e; exact ⟨_, _, rfl, rfl, rfl⟩) fun _ _ _ _ => .bl _
theorem o_div : OpR X (binaryOp .FloorDiv) (rD2 dDiv) := o_intsC (gD := fun i j => .int (i / j)) op_fdivW (fun a b d e => by
  cases a <;> cases b <;> first | cases e | skip
  rename_i i j
  have e : (if 0 < j ∧ j.natAbs.log2 < 9000 then some (D.int (i / j)) else none) = some d := e
  by_cases h : 0 < j ∧ j.natAbs.log2 < 9000
  · rw [if_pos h] at e; cases e; exact ⟨_, _, rfl, rfl, h, rfl⟩
  · rw [if_neg h] at e; cases e) fun _ _ _ _ => .int _
theorem o_mod : OpR X (binaryOp .Mod) (rD2 dMod) := o_intsC (gD := fun i j => .int (i % j)) op_mod (fun a b d e => by
  cases a <;> cases b <;> first | cases e | skip
  rename_i i j
  have e : (if 0 < j then some (D.int (i % j)) else none) = some d := e
  by_cases h : 0 < j
  · rw [if_pos h] at e; cases e; exact ⟨_, _, rfl, rfl, h, rfl⟩
  · rw [if_neg h] at e; cases e) fun _ _ _ _ => .int _
theorem o_pow : OpR X (binaryOp .Pow) (rD2 dPow) := o_intsC (gD := fun i j => .int (i ^ j.toNat)) op_pow (fun a b d e => by
  cases a <;> cases b <;> first | cases e | skip
  rename_i i j
  have e : (if 0 ≤ j ∧ j ≤ 1000 ∧ i.natAbs < 2 ^ 64 then some (D.int (i ^ j.toNat)) else none) = some d := e
  by_cases h : 0 ≤ j ∧ j ≤ 1000 ∧ i.natAbs < 2 ^ 64
  · rw [if_pos h] at e; cases e; exact ⟨_, _, rfl, rfl, ⟨h.1, by omega, h.2.2⟩, rfl⟩
  · rw [if_neg h] at e; cases e) fun _ _ _ _ => .int _
theorem mulC_ok {i j : Int} (h : mulC i j = true) : CMul i j ∨ CMulW i j := by
  unfold mulC at h
  simp only [Bool.or_eq_true, decide_eq_true_eq] at h
  rcases h with (h | h) | h
  · exact .inl (.inl ⟨by omega, by omega⟩)
  · exact .inl (.inr ⟨by omega, by omega⟩)
  · exact .inr h
theorem o_mul : OpR X (binaryOp .Mult) (rD2 dMul) := (op_mul.or (op_mulW.or op_rep)).imp fun x y H Q ⟨S, a, b, d, La, Lb, hn, ra, rb, e, q⟩ => by
  cases a with
  | int i =>
    cases b with
    | int j =>
      have e : (if mulC i j = true then some (D.int (i * j)) else none) = some d := e
      obtain ⟨rfl, rfl⟩ := ra.iint
      obtain ⟨rfl, rfl⟩ := rb.iint
      by_cases h : mulC i j = true
      · rw [if_pos h] at e
        cases e
        rcases mulC_ok h with h | h
        · exact .inl ⟨i, j, rfl, rfl, h, q _ _ _ HE.refl (.int _)⟩
        · exact .inr (.inl ⟨i, j, rfl, rfl, h, q _ _ _ HE.refl (.int _)⟩)
      · rw [if_neg h] at e; cases e
    | _ => cases e
  | lst xs =>
    cases b with
    | int k =>
      have e : (if -1000 ≤ k ∧ k ≤ 1000 ∧ xs.length ≤ 1000 ∧ lfs xs = true then some (D.lst (List.replicate k.toNat xs).flatten) else none) = some d := e
      obtain ⟨a, vs, L1, rfl, ea, na, rsa, rfl⟩ := ra.ilst
      obtain ⟨rfl, rfl⟩ := rb.iint
      by_cases h : -1000 ≤ k ∧ k ≤ 1000 ∧ xs.length ≤ 1000 ∧ lfs xs = true
      · rw [if_pos h] at e
        cases e
        have hl := rsa.len
        have hL := rsa.nils h.2.2.2
        subst hL
        refine .inr (.inr ⟨_, k, _, rfl, rfl, ea, by omega, by omega, ?_, fun p np => ?_⟩)
        · have h2 : vs.length * k.toNat ≤ 1000 * 1000 := Nat.mul_le_mul (by omega) (by omega)
          exact size_ok h2
        · exact q _ _ _ (HE.fresh np) (.lst upd_same (fun z => hn _ z np) ((rsa.repl k.toNat).ext0 (HE.fresh np)))
      · rw [if_neg h] at e; cases e
    | _ => cases e
  | _ => cases e
theorem o_neg : UnR X (unaryOp .USub) (rD1 dNeg) := un_neg.imp fun x H Q ⟨S, a, d, La, hn, ra, e, q⟩ => by
  cases a <;> cases e
  obtain ⟨rfl, rfl⟩ := ra.iint
  exact ⟨_, rfl, q _ _ _ HE.refl (.int _)⟩
theorem o_eq (hu : X.A.units + 64 < cLine) : OpR X (compareOp .Eq) (rD2 dEq) := (op_eqD hu).imp fun x y H Q ⟨S, a, b, d, La, Lb, hn, ra, rb, e, q⟩ => by
  unfold dEq at e
  by_cases h : (dOk 8 a && dOk 8 b) = true
  · rw [if_pos h] at e
    cases e
    rw [Bool.and_eq_true] at h
    exact ⟨_, _, ra.dp 8 h.1, rb.dp 8 h.2, dOk_shaped h.1, dOk_shaped h.2, q _ _ _ HE.refl (.bl _)⟩
  · rw [if_neg h] at e; cases e
theorem o_ne (hu : X.A.units + 64 < cLine) : OpR X (compareOp .NotEq) (rD2 dNe) := (op_neD hu).imp fun x y H Q ⟨S, a, b, d, La, Lb, hn, ra, rb, e, q⟩ => by
  unfold dNe at e
  by_cases h : (dOk 8 a && dOk 8 b) = true
  · rw [if_pos h] at e
    cases e
    rw [Bool.and_eq_true] at h
    exact ⟨_, _, ra.dp 8 h.1, rb.dp 8 h.2, dOk_shaped h.1, dOk_shaped h.2, q _ _ _ HE.refl (.bl _)⟩
  · rw [if_neg h] at e; cases e
theorem Rp.isNon {S : Sr} {H : Hp} {v : V} {d : D} {L : List Addr} (r : Rp S H v d L) : decide (v = .non) = d.isNon := by
  cases r <;> first | rfl | (exact decide_eq_false (fun z => nomatch z))
theorem o_is : OpR X (compareOp .Is) (rD2 dIs) := (op_isN.or op_isBl).imp fun x y H Q ⟨S, a, b, d, La, Lb, hn, ra, rb, e, q⟩ => by
  cases b with
  | non =>
    obtain ⟨rfl, rfl⟩ := rb.inon
    have e : some (D.bl a.isNon) = some d := by cases a <;> exact e
    cases e
    exact .inl ⟨rfl, q _ _ _ HE.refl (by rw [ra.isNon]; exact .bl _)⟩
  | bl k =>
    cases a with
    | bl k2 =>
      cases e
      obtain ⟨rfl, rfl⟩ := ra.ibl
      obtain ⟨rfl, rfl⟩ := rb.ibl
      exact .inr ⟨_, _, rfl, rfl, q _ _ _ HE.refl (.bl _)⟩
    | _ => cases e
  | _ => cases a <;> cases e
theorem o_isN : OpR X (compareOp .IsNot) (rD2 dIsN) := (op_notN.or op_notBl).imp fun x y H Q ⟨S, a, b, d, La, Lb, hn, ra, rb, e, q⟩ => by
  cases b with
  | non =>
    obtain ⟨rfl, rfl⟩ := rb.inon
    have e : some (D.bl (!a.isNon)) = some d := by cases a <;> exact e
    cases e
    exact .inl ⟨rfl, q _ _ _ HE.refl (by rw [ra.isNon]; exact .bl _)⟩
  | bl k =>
    cases a with
    | bl k2 =>
      cases e
      obtain ⟨rfl, rfl⟩ := ra.ibl
      obtain ⟨rfl, rfl⟩ := rb.ibl
      exact .inr ⟨_, _, rfl, rfl, q _ _ _ HE.refl (.bl _)⟩
    | _ => cases e
  | _ => cases a <;> cases e
theorem o_in : OpR X (compareOp .In) (rD2 dIn) := op_in_seq.imp fun x y H Q ⟨S, a, b, d, La, Lb, hn, ra, rb, e, q⟩ => by
  unfold dIn at e
  obtain ⟨xs, e1, e2⟩ := Option.bind_eq_some_iff.mp e
  obtain ⟨p, vs, L', rfl, ho, rs⟩ := rb.items e1
  by_cases h : (flatD a && xs.all flatD) = true
  · rw [if_pos h] at e2
    cases e2
    rw [Bool.and_eq_true] at h
    refine ⟨p, vs, rfl, ho.elim (fun z => .inl (.inl z)) fun z => .inr (.inl z), ra.flat h.1, rs.flats h.2, ?_⟩
    rw [if_neg Bool.false_ne_true, rs.inD ra h.1 h.2]
    exact q _ _ _ HE.refl (.bl _)
  · rw [if_neg h] at e2; cases e2
theorem o_notIn : OpR X (compareOp .NotIn) (rD2 dNotIn) := op_notIn_seq.imp fun x y H Q ⟨S, a, b, d, La, Lb, hn, ra, rb, e, q⟩ => by
  unfold dNotIn at e
  obtain ⟨xs, e1, e2⟩ := Option.bind_eq_some_iff.mp e
  obtain ⟨p, vs, L', rfl, ho, rs⟩ := rb.items e1
  by_cases h : (flatD a && xs.all flatD) = true
  · rw [if_pos h] at e2
    cases e2
    rw [Bool.and_eq_true] at h
    refine ⟨p, vs, rfl, ho.elim (fun z => .inl (.inl z)) fun z => .inr (.inl z), ra.flat h.1, rs.flats h.2, ?_⟩
    rw [if_pos rfl, rs.inD ra h.1 h.2]
    exact q _ _ _ HE.refl (.bl _)
  · rw [if_neg h] at e2; cases e2
theorem Rps.atI {S : Sr} {H : Hp} {vs : List V} {ds : List D} {L : List Addr} (r : Rps S H vs ds L) {i : Int} {d : D} (h : atI ds i = some d) : ∃ v L', L2.atI vs i = some v ∧ Rp S H v d L' ∧ ∀ a ∈ L', a ∈ L := by
  unfold L2.atI at h
  obtain ⟨j, e1, e2⟩ := Option.bind_eq_some_iff.mp h
  obtain ⟨v, L', h1, h2, h3⟩ := r.get e2
  refine ⟨v, L', ?_, h2, h3⟩
  unfold L2.atI
  rw [r.len, e1]
  exact h1
theorem o_ix : IxR X (rD2 dIx) := (ix_list.or ix_tup).imp fun x y H Q ⟨S, a, b, d, La, Lb, hn, ra, rb, e, q⟩ => by
  cases b with
  | int i =>
    obtain ⟨rfl, rfl⟩ := rb.iint
    obtain ⟨xs, e1, e2⟩ := Option.bind_eq_some_iff.mp (show (a.items.bind fun xs => atI xs i) = some d from e)
    obtain ⟨p, vs, L', rfl, ho, rs⟩ := ra.items e1
    obtain ⟨v, L2', h1, h2, _⟩ := rs.atI e2
    rcases ho with ho | ho
    · exact .inl ⟨p, vs, i, v, rfl, rfl, .inl ho, h1, q _ _ _ HE.refl h2⟩
    · exact .inr ⟨p, vs, i, v, rfl, rfl, .inl ho, h1, q _ _ _ HE.refl h2⟩
  | _ => cases e

/-! ### slices -/
abbrev FO := Ev → M (Option Int)
def tO (f : FO) : TO := fun σ H Q => ∃ S δ st d st', Rs S H σ δ ∧ SrcOk S H st ∧ f δ st = some (d, st') ∧ ∀ H', Ext S H H' → SrcOk S H' st' → Q d H'
abbrev DO (X : Cx) (e : Option Expr) (f : FO) : Prop := PO X e (tO f)
theorem _root_.L2.PO.imp {X : Cx} {e : Option Expr} {t t' : TO} (p : PO X e t) (h : ∀ σ H Q, t' σ H Q → t σ H Q) : PO X e t' := ⟨fun pins s σ H Q I w => p.run pins s σ H Q I (h σ H Q w)⟩
def fNo : FO := fun _ => M.ret none
def fSo (f : FE) : FO := fun δ => (f δ).bd fun d => M.of (match d with | .int i => some (some i) | _ => none)
theorem do_none : DO X none fNo := po_none.imp fun σ H Q ⟨S, δ, st, d, st', rs, so, e, q⟩ => by
  obtain ⟨e1, e2⟩ := ret_inv e
  subst e1 e2
  exact q H HE.refl so
theorem do_some {e : Expr} {f : FE} (h : DE X e f) : DO X (some e) (fSo f) := (po_some h).imp fun σ H Q ⟨S, δ, st, d, st', rs, so, e, q⟩ => by
  obtain ⟨x, s1, ea, e⟩ := bd_inv e
  obtain ⟨eo, es⟩ := of_inv e
  subst es
  refine ⟨S, δ, st, x, _, rs, so, ea, fun v H1 L1 x1 so1 r1 => ?_⟩
  cases x with
  | int i =>
    cases eo
    obtain ⟨rfl, rfl⟩ := r1.iint
    exact ⟨i, rfl, q H1 x1 so1⟩
  | _ => cases eo
def cutD (xs : List D) (lo hi : Option Int) : List D := (xs.drop (HT.sIx xs.length 0 lo)).take (HT.sIx xs.length xs.length hi - HT.sIx xs.length 0 lo)
def dSl (a : D) (lo hi : Option Int) : Option D := match a with
  | .tup xs => some (.tup (cutD xs lo hi))
  | .lst xs => some (.lst (cutD xs lo hi))
  | _ => none
theorem Rps.cut {S : Sr} {H : Hp} {vs : List V} {ds : List D} {L : List Addr} (r : Rps S H vs ds L) (lo hi : Option Int) : ∃ L', Rps S H (cutV vs lo hi) (cutD ds lo hi) L' := by
  unfold cutV cutD
  rw [r.len]
  refine Rps.mk (by simp [r.len]) fun i d v h1 h2 => ?_
  rw [List.getElem?_take] at h1 h2
  by_cases hi' : i < HT.sIx ds.length ds.length hi - HT.sIx ds.length 0 lo
  · rw [if_pos hi', List.getElem?_drop] at h1 h2
    obtain ⟨w, L', e1, e2, _⟩ := r.get h1
    rw [h2] at e1
    cases e1
    exact ⟨L', e2⟩
  · rw [if_neg hi'] at h1; cases h1
def rSlD : V → Option Int → Option Int → Hp → VK → Prop := fun x lo hi H Q => ∃ S a d La, S.tr H ∧ Rp S H x a La ∧ dSl a lo hi = some d ∧ ∀ v H' L, HE0 H H' → Rp S H' v d L → Q v H'
theorem _root_.L2.SlR.imp {r r' : V → Option Int → Option Int → Hp → VK → Prop} (p : SlR X r) (h : ∀ x lo hi H Q, r' x lo hi H Q → r x lo hi H Q) : SlR X r' := by
  intro pins s σ H x v vl vu lo hi sl Q I rx hs pl pu w
  exact p pins s σ H x v vl vu lo hi sl Q I rx hs pl pu (h _ _ _ _ _ w)
theorem sl_D : SlR X rSlD := (sl_list.or sl_tupA).imp fun x lo hi H Q ⟨S, a, d, La, hn, ra, e, q⟩ => by
  cases a with
  | tup xs =>
    cases e
    obtain ⟨a, vs, rfl, ea, rs⟩ := ra.itup
    obtain ⟨L', rc⟩ := rs.cut lo hi
    refine .inr ⟨a, vs, rfl, SqT.of ea, fun hw => ?_, fun _ p np => ?_⟩
    · have e2 : cutD xs lo hi = xs := by
        unfold cutD
        rw [← rs.len, hw.1, hw.2, List.drop_zero, Nat.sub_zero]
        exact List.take_of_length_le (by rw [rs.len]; exact Nat.le_refl _)
      rw [e2] at q
      exact q _ _ _ HE.refl (.tup ea rs)
    · exact q _ _ _ (HE.fresh np) (.tup upd_same (rc.ext0 (HE.fresh np)))
  | lst xs =>
    cases e
    obtain ⟨a, vs, L1, rfl, ea, na, rs, rfl⟩ := ra.ilst
    obtain ⟨L', rc⟩ := rs.cut lo hi
    exact .inl ⟨a, vs, rfl, SqL.of ea, fun p np => q _ _ _ (HE.fresh np) (.lst upd_same (fun z => hn _ z np) (rc.ext0 (HE.fresh np)))⟩
  | _ => cases e
def eSl (f : FE) (lo hi : FO) : FE := fun δ => (f δ).bd fun a => (lo δ).bd fun l => (hi δ).bd fun u => M.of (dSl a l u)
theorem d_sl {e : Expr} {f : FE} {lo hi : Option Expr} {l u : FO} {p2 pos : Pos} (he : DE X e f) (hl : DO X lo l) (hu : DO X hi u) : DE X (.Subscript e (.Slice lo hi none p2) pos) (eSl f l u) := (pe_slice sl_D he hl hu).imp fun σ H Q ⟨S, δ, st, d, st', rs, so, e, q⟩ => by
  obtain ⟨x, s1, ea, e⟩ := bd_inv e
  obtain ⟨y, s2, eb, e⟩ := bd_inv e
  obtain ⟨z, s3, ec, e⟩ := bd_inv e
  obtain ⟨eo, es⟩ := of_inv e
  subst es
  exact ⟨S, δ, st, x, s1, rs, so, ea, fun v H1 L1 x1 so1 r1 => ⟨S, δ, s1, y, s2, rs.extS x1, so1, eb, fun H2 x2 so2 => ⟨S, δ, s2, z, _, rs.extS (x1.trans x2), so2, ec, fun H3 x3 so3 =>
    ⟨S, x, d, L1, so3.tr, r1.extS (x2.trans x3), eo, fun w H4 L4 x4 r4 => q w H4 L4 (x1.trans (x2.trans (x3.trans x4.up0))) (so3.ext0 x4) r4⟩⟩⟩⟩

/-! ### calls of built-ins -/
def eCall (o : List D → Option D) (fs : Ev → M (List D)) : FE := fun δ => (fs δ).bd fun ds => M.of (o ds)
theorem tcb_imp {o : List D → Option D} {fs : Ev → M (List D)} : ∀ σ H Q, tD (eCall o fs) σ H Q → tCB (rDs o) (tAs fs) σ H Q := fun σ H Q ⟨S, δ, st, d, st', rs, so, e, q⟩ => by
  obtain ⟨x, s1, ea, e⟩ := bd_inv e
  obtain ⟨eo, es⟩ := of_inv e
  subst es
  exact ⟨S, δ, st, x, _, rs, so, ea, fun vs H1 L1 x1 so1 r1 => ⟨S, x, d, L1, so1.tr, r1, eo, fun z H3 L3 x3 r3 => q z H3 L3 (x1.trans x3.up0) (so1.ext0 x3) r3⟩⟩
theorem d_bi {id : String} {x : Str} {p pos : Pos} {e : Expr} {es : List Expr} {o : List D → Option D} {fs : Ev → M (List D)} (hc : CallR X (.builtin id) (rDs o)) (hg : Gl X x) (hm : X.mg x = none) (hv : bootBuiltins x = some (.builtin id)) (ha : DA X (e :: es) fs)
    (hn : x ≠ "__name__" := by decide) (hdb : (x == ("__debug__" : Str)) = false := by decide) (he : starEach (e :: es) X.env = (false, eval e X.env) :: starEach es X.env := by rfl) (hpl : (backTo pos (starEach es X.env)).any (·.1) = false := by rfl) :
    DE X (.Call (.Name x p) (e :: es) [] pos) (eCall o fs) := (pe_callB hc hg hm hv ha hn hdb he hpl).imp tcb_imp
theorem d_ty {T : String} {x : Str} {p pos : Pos} {e : Expr} {es : List Expr} {o : List D → Option D} {fs : Ev → M (List D)} (hc : CallR X (.type T) (rDs o)) (hg : Gl X x) (hm : X.mg x = none) (hv : bootBuiltins x = some (.type T)) (ha : DA X (e :: es) fs)
    (hn : x ≠ "__name__" := by decide) (hdb : (x == ("__debug__" : Str)) = false := by decide) (he : starEach (e :: es) X.env = (false, eval e X.env) :: starEach es X.env := by rfl) (hpl : (backTo pos (starEach es X.env)).any (·.1) = false := by rfl) :
    DE X (.Call (.Name x p) (e :: es) [] pos) (eCall o fs) := (pe_callTy hc hg hm hv ha hn hdb he hpl).imp tcb_imp
theorem Rps.i1 {S : Sr} {H : Hp} {vs : List V} {d : D} {L : List Addr} (r : Rps S H vs [d] L) : ∃ v, vs = [v] ∧ Rp S H v d L := by
  cases r with
  | cons r rs => cases rs; exact ⟨_, rfl, by simpa using r⟩
theorem Rps.i2 {S : Sr} {H : Hp} {vs : List V} {d e : D} {L : List Addr} (r : Rps S H vs [d, e] L) : ∃ v u L1 L2, vs = [v, u] ∧ Rp S H v d L1 ∧ Rp S H u e L2 := by
  cases r with
  | cons r rs =>
    obtain ⟨u, rfl, r2⟩ := rs.i1
    exact ⟨_, _, _, _, rfl, r, r2⟩
theorem Rps.i3 {S : Sr} {H : Hp} {vs : List V} {d e f : D} {L : List Addr} (r : Rps S H vs [d, e, f] L) : ∃ v u w L1 L2 L3, vs = [v, u, w] ∧ Rp S H v d L1 ∧ Rp S H u e L2 ∧ Rp S H w f L3 := by
  cases r with
  | cons r rs =>
    obtain ⟨u, w, L1, L2, rfl, r2, r3⟩ := rs.i2
    exact ⟨_, _, _, _, _, _, rfl, r, r2, r3⟩
def bLen : List D → Option D
  | [d] => d.items.map fun xs => .int xs.length
  | _ => none
theorem b_len : CallR X (.builtin "len") (rDs bLen) := call_len_seq.imp fun x H Q ⟨S, ds, d, La, hn, rs, e, q⟩ => by
  match ds, e with
  | [a], e =>
    obtain ⟨v, rfl, r⟩ := rs.i1
    obtain ⟨xs, e1, e2⟩ := Option.map_eq_some_iff.mp (show (a.items.map fun xs => D.int xs.length) = some d from e)
    obtain ⟨p, vs, L', rfl, ho, rs'⟩ := r.items e1
    subst e2
    refine ⟨p, vs, rfl, ho.elim (fun z => .inl (.inl z)) fun z => .inr (.inl z), ?_⟩
    rw [rs'.len]
    exact q _ _ _ HE.refl (.int _)
def bAbs : List D → Option D
  | [.int i] => some (.int (if i < 0 then -i else i))
  | _ => none
theorem b_abs : CallR X (.builtin "abs") (rDs bAbs) := call_abs.imp fun x H Q ⟨S, ds, d, La, hn, rs, e, q⟩ => by
  match ds, e with
  | [.int i], e =>
    cases e
    obtain ⟨v, rfl, r⟩ := rs.i1
    obtain ⟨rfl, rfl⟩ := r.iint
    exact ⟨i, rfl, q _ _ _ HE.refl (.int _)⟩
def bInt : List D → Option D
  | [.int i] => some (.int i)
  | _ => none
theorem b_int : CallR X (.type "int") (rDs bInt) := call_int1.imp fun x H Q ⟨S, ds, d, La, hn, rs, e, q⟩ => by
  match ds, e with
  | [.int i], e =>
    cases e
    obtain ⟨v, rfl, r⟩ := rs.i1
    obtain ⟨rfl, rfl⟩ := r.iint
    exact .inl ⟨i, rfl, q _ _ _ HE.refl (.int _)⟩
def bMax2 : List D → Option D
  | [.int i, .int j] => some (.int (if j > i then j else i))
  | _ => none
theorem b_max2 (hc : X.calm = true) : CallR X (.builtin "max") (rDs bMax2) := (call_max2 hc).imp fun x H Q ⟨S, ds, d, La, hn, rs, e, q⟩ => by
  match ds, e with
  | [.int i, .int j], e =>
    cases e
    obtain ⟨v, u, _, _, rfl, r, r'⟩ := rs.i2
    obtain ⟨rfl, rfl⟩ := r.iint
    obtain ⟨rfl, rfl⟩ := r'.iint
    exact ⟨i, j, rfl, q _ _ _ HE.refl (.int _)⟩
def bMin2 : List D → Option D
  | [.int i, .int j] => some (.int (if j < i then j else i))
  | _ => none
theorem b_min2 (hc : X.calm = true) : CallR X (.builtin "min") (rDs bMin2) := (call_min2 hc).imp fun x H Q ⟨S, ds, d, La, hn, rs, e, q⟩ => by
  match ds, e with
  | [.int i, .int j], e =>
    cases e
    obtain ⟨v, u, _, _, rfl, r, r'⟩ := rs.i2
    obtain ⟨rfl, rfl⟩ := r.iint
    obtain ⟨rfl, rfl⟩ := r'.iint
    exact ⟨i, j, rfl, q _ _ _ HE.refl (.int _)⟩
/-- boolL, intL of a list -/
def boolL : List D → Option (List Bool)
  | [] => some []
  | .bl b :: ds => (boolL ds).map (b :: ·)
  | _ => none
def intL : List D → Option (List Int)
  | [] => some []
  | .int b :: ds => (intL ds).map (b :: ·)
  | _ => none
theorem Rps.boolL {S : Sr} {H : Hp} {vs : List V} {ds : List D} {L : List Addr} {bs : List Bool} (r : Rps S H vs ds L) (h : boolL ds = some bs) : vs = bs.map V.bl := by
  induction ds generalizing vs L bs with
  | nil => cases r; cases h; rfl
  | cons d ds ih =>
    cases r with
    | cons r rs =>
      cases d with
      | bl b =>
        obtain ⟨cs, e1, e2⟩ := Option.map_eq_some_iff.mp (show (DL.boolL ds).map (b :: ·) = some bs from h)
        subst e2
        rw [ih rs e1, r.ibl.1]; rfl
      | _ => cases h
theorem Rps.intL {S : Sr} {H : Hp} {vs : List V} {ds : List D} {L : List Addr} {bs : List Int} (r : Rps S H vs ds L) (h : intL ds = some bs) : vs = bs.map V.int := by
  induction ds generalizing vs L bs with
  | nil => cases r; cases h; rfl
  | cons d ds ih =>
    cases r with
    | cons r rs =>
      cases d with
      | int b =>
        obtain ⟨cs, e1, e2⟩ := Option.map_eq_some_iff.mp (show (DL.intL ds).map (b :: ·) = some bs from h)
        subst e2
        rw [ih rs e1, r.iint.1]; rfl
      | _ => cases h
def bAny : List D → Option D
  | [.lst ds] => (boolL ds).map fun bs => .bl (bs.any id)
  | _ => none
def bAll : List D → Option D
  | [.lst ds] => (boolL ds).map fun bs => .bl (bs.all id)
  | _ => none
def bSum : List D → Option D
  | [.lst ds] => (intL ds).map fun bs => .int bs.sum
  | _ => none
theorem b_any (hc : X.calm = true) : CallR X (.builtin "any") (rDs bAny) := (cr_any hc).imp fun x H Q ⟨S, ds, d, La, hn, rs, e, q⟩ => by
  match ds, e with
  | [.lst xs], e =>
    obtain ⟨v, rfl, r⟩ := rs.i1
    obtain ⟨bs, e1, e2⟩ := Option.map_eq_some_iff.mp (show (boolL xs).map (fun bs => D.bl (bs.any id)) = some d from e)
    subst e2
    obtain ⟨a, vs, L1, rfl, ea, na, rs', rfl⟩ := r.ilst
    rw [rs'.boolL e1] at ea
    exact ⟨a, bs, rfl, SqL.of ea, q _ _ _ HE.refl (.bl _)⟩
theorem b_all (hc : X.calm = true) : CallR X (.builtin "all") (rDs bAll) := (cr_all hc).imp fun x H Q ⟨S, ds, d, La, hn, rs, e, q⟩ => by
  match ds, e with
  | [.lst xs], e =>
    obtain ⟨v, rfl, r⟩ := rs.i1
    obtain ⟨bs, e1, e2⟩ := Option.map_eq_some_iff.mp (show (boolL xs).map (fun bs => D.bl (bs.all id)) = some d from e)
    subst e2
    obtain ⟨a, vs, L1, rfl, ea, na, rs', rfl⟩ := r.ilst
    rw [rs'.boolL e1] at ea
    exact ⟨a, bs, rfl, SqL.of ea, q _ _ _ HE.refl (.bl _)⟩
theorem b_sum (hc : X.calm = true) : CallR X (.builtin "sum") (rDs bSum) := (cr_sum hc).imp fun x H Q ⟨S, ds, d, La, hn, rs, e, q⟩ => by
  match ds, e with
  | [.lst xs], e =>
    obtain ⟨v, rfl, r⟩ := rs.i1
    obtain ⟨bs, e1, e2⟩ := Option.map_eq_some_iff.mp (show (intL xs).map (fun bs => D.int bs.sum) = some d from e)
    subst e2
    obtain ⟨a, vs, L1, rfl, ea, na, rs', rfl⟩ := r.ilst
    rw [rs'.intL e1] at ea
    exact ⟨a, bs, rfl, SqL.of ea, q _ _ _ HE.refl (.int _)⟩
def bTup : List D → Option D
  | [.lst ds] => some (.tup ds)
  | [.tup ds] => some (.tup ds)
  | _ => none
theorem b_tup : CallR X (.type "tuple") (rDs bTup) := call_tuple_of.imp fun x H Q ⟨S, ds, d, La, hn, rs, e, q⟩ => by
  match ds, e with
  | [.lst xs], e =>
    cases e
    obtain ⟨v, rfl, r⟩ := rs.i1
    obtain ⟨a, vs, L1, rfl, ea, na, rs', rfl⟩ := r.ilst
    exact ⟨a, vs, rfl, .inl ⟨SqL.of ea, fun p np => q _ _ _ (HE.fresh np) (.tup upd_same (rs'.ext0 (HE.fresh np)))⟩⟩
  | [.tup xs], e =>
    cases e
    obtain ⟨v, rfl, r⟩ := rs.i1
    obtain ⟨a, vs, rfl, ea, rs'⟩ := r.itup
    exact ⟨a, vs, rfl, .inr ⟨SqT.of ea, q _ _ _ HE.refl (.tup ea rs')⟩⟩
def bList : List D → Option D
  | [d] => d.items.map .lst
  | _ => none
theorem b_list : CallR X (.type "list") (rDs bList) := call_list_of.imp fun x H Q ⟨S, ds, d, La, hn, rs, e, q⟩ => by
  match ds, e with
  | [a], e =>
    obtain ⟨v, rfl, r⟩ := rs.i1
    obtain ⟨xs, e1, e2⟩ := Option.map_eq_some_iff.mp (show (a.items.map D.lst) = some d from e)
    obtain ⟨p, vs, L', rfl, ho, rs'⟩ := r.items e1
    subst e2
    exact ⟨p, vs, rfl, ho.elim (fun z => .inl (.inl z)) fun z => .inr (.inl z), fun l nl => q _ _ _ (HE.fresh nl) (.lst upd_same (fun z => hn _ z nl) (rs'.ext0 (HE.fresh nl)))⟩
end
end DL
set_option Elab.async false
set_option linter.all false
set_option maxRecDepth 100000
set_option maxHeartbeats 4000000
/-! DEnum: enumerate over a tuple, as what a loop walks. -/
namespace DL
open PySem PySem.Spec PyProof.Rows L2

theorem enum1_meets {v : Value} {o : Obj} {T : Heap → Prop} (B : Begins v o T) : Meets (Builtin.«enumerate.__new__» ⟨[.type "enumerate", v], []⟩) (fun _ R s => T s.heap ∧
    R (.ok (.ret (.ref (s.heap.push o).objs.size))) { s with heap := (s.heap.push o).push { cls := .type "enumerate", data := .fields #[.none, .bool false, .ref s.heap.objs.size, rawInt 0, .none, .none] } }) := by
  refine Meets.of_wp fun prog w A R s h => ?_
  obtain ⟨hp, g, d, tk, os⟩ := s
  have hsubt := sub_enumerate
  have it1 : ∀ {A' : Around} {E : Value → Shared → Prop} {Q : Value → Shared → Prop}, Q (.ref hp.objs.size) ⟨hp.push o, g, d, tk, os⟩ → wpAny (model prog w) A' (pyIter v) Q E ⟨hp, g, d, tk, os⟩ := fun q => B.iter _ _ _ _ ⟨hp, g, d, tk, os⟩ _ h.1 q
  replace h := h.2
  wp_walk using it1
  refine wpAny_stack_any fun st => (wpAny_pure ?_)
  split
  · rename_i c _ _ _ _ _
    cases (c == Value.type "enumerate") <;> (wp_walk using it1; exact ⟨_, rfl, h⟩)
  · (wp_walk using it1; exact ⟨_, rfl, h⟩)

theorem enum1_call {prog : Program} {w : World} {A : Around} {E : Value → Shared → Prop} {s : Shared} {v : Value} {o : Obj} {T : Heap → Prop} {Q : Value → Shared → Prop} (B : Begins v o T) (h1 : T s.heap)
    (h : ∀ h', IsEnum h' (s.heap.objs.size + 1) s.heap.objs.size 0 .none → h'.get? s.heap.objs.size = some o → (∀ b u, s.heap.get? b = some u → h'.get? b = some u) → Q (.ref (s.heap.objs.size + 1)) { s with heap := h' }) :
    wpAny (model prog w) A (call (.type "enumerate") [v]) Q E s := by
  refine callType_new F.called_enumerate (by decide) (F.typeCall_enumerate_1 _) (F.newCall_enumerate_1 _) (fun obj => F.args_object_init_2 obj _) F.entry_enumerate_new (enum1_meets B) ⟨h1, ?_⟩
  have hz : (s.heap.push o).objs.size = s.heap.objs.size + 1 := Heap.size_push ..
  show _ ∧ _
  rw [hz]
  have he : IsEnum ((s.heap.push o).push { cls := .type "enumerate", data := .fields #[.none, .bool false, .ref s.heap.objs.size, rawInt 0, .none, .none] }) (s.heap.objs.size + 1) s.heap.objs.size 0 .none := by
    have z := Heap.get?_push_size (s.heap.push o) (o := { cls := .type "enumerate", data := .fields #[.none, .bool false, .ref s.heap.objs.size, rawInt 0, .none, .none] }) rfl
    rwa [hz] at z
  exact ⟨⟨_, he, rfl⟩, h _ he (Heap.get?_push_of_some _ (Heap.get?_push_size _ B.free)) fun b u x => Heap.get?_push_of_some _ (Heap.get?_push_of_some _ x)⟩

/-- the tuple at a, each item in a new pair -/
def IteT (K : PySem.W.Frag) (a : Addr) : It :=
  ⟨fun i H => ∃ (xs : List V) (x : V), SqT K H a xs ∧ xs[i]? = some x, fun i H v H' => ∃ T x, v = .ref T ∧ H T = none ∧ H' = upd H T (.tup [.int (i : Nat), x]) ∧ ∀ xs, SqT K H a xs → xs[i]? = some x, fun i H => ∃ xs : List V, SqT K H a xs ∧ xs.length ≤ i⟩
theorem turn_enumT {P : Program} {w : World} {K : PySem.W.Frag} {elts : List Expr} {kk : Nat} {tpos : Pos} (a e it : Addr) :
    Turn P w K (.Tuple elts kk tpos) (IteT K a) [e, it] e (fun i h => (∃ old, IsEnum h e it ((i : Nat) : Int) old) ∧ h.IsTupleIter it a i ∧ e ≠ it ∧ a ≠ it ∧ a ≠ e) where
  mem := List.mem_cons_self
  obj := fun i h st b hb => by
    obtain ⟨⟨old, he⟩, ⟨o, ho, hc, hd⟩, _⟩ := st
    rcases (show b = e ∨ b = it by simpa using hb) with z | z
    · exact ⟨_, z ▸ he, fun v q => by cases q⟩
    · exact ⟨o, z ▸ ho, fun v q => by rw [hd] at q; cases q⟩
  keep := fun i h h' st k => ⟨⟨st.1.choose, k e (by simp) _ st.1.choose_spec⟩, st.2.1.at fun o q => k it (by simp) o q, st.2.2⟩
  item := by
    intro X hP hw hK hc i pins s σ H E I hf st hg
    subst hP hw hK
    obtain ⟨⟨old, he⟩, hit, hne, hai, hae⟩ := st
    obtain ⟨xs, x, hq, hx⟩ := hg
    obtain ⟨its, rv, p, hz⟩ := I.tuple hq
    obtain ⟨u, hu, ru⟩ := rv.get hx
    have hel : e < s.heap.objs.size := Heap.lt_size he
    have hil : it < s.heap.objs.size := by obtain ⟨_, q, _⟩ := hit; exact Heap.lt_size q
    have hlt : i < its.toArray.size := by
      rw [List.size_toArray, ← rv.length]
      exact (List.getElem?_eq_some_iff.mp hx).1
    refine wpAny_pyNext_enum_itemD (Draws.tuple (A := X.A.in1) (I.ok.hd hc) it a hai its.toArray) he ⟨hit, p⟩ hlt hne (by simp [hne, Ne.symm hae]) fun y h' tk hy ho hst hT hsz hk => ?_
    have ey : y = u := by
      have : some y = some u := by rw [← hy]; simpa using hu
      exact Option.some.inj this
    subst ey
    refine ⟨_, rfl, wpAny_letOwnedTupleGo_enum (s := { s with heap := h', toks := tk + 1 }) ho fun h'' he' sb => ?_⟩
    have hT2 : h''.get? s.heap.objs.size = some { cls := .type "tuple", data := .seq #[.int i tk, y] } := (sb.2 _ (Nat.ne_of_gt hel)).trans hT
    have new : ObjOk X.prog X.w (upd H s.heap.objs.size (.tup [.int (i : Nat), x])) h'' s.heap.objs.size (.tup [.int (i : Nat), x]) := ⟨size_ok (by show 2 ≤ 1000000; decide), [.int i tk, y], .cons ⟨_, rfl⟩ (.cons ru .nil), ⟨_, hT2, rfl, _, rfl⟩⟩
    have I1 : Inv X pins σ (upd H s.heap.objs.size (.tup [.int (i : Nat), x])) { s with heap := h'', toks := tk + 1 } :=
      I.turnedNew (t' := tk + 1) (ch := [e, it]) (fun b ob hb q => (sb.2 b (fun z => hb (by simp [z]))).trans (hk b ob (fun z => hb (by simp [z])) (fun z => hb (by simp [z])) q)) hf (Nat.le_refl _) new
    refine ⟨.ref s.heap.objs.size, _, I1, rfl, ⟨_, x, rfl, I.hok.fresh (Nat.le_refl _), rfl, fun ys hy => by rw [I.tuple_inj hy hq]; exact hx⟩, ⟨⟨y, ?_⟩, hst.1.at fun o q => (sb.2 it (Ne.symm hne)).trans q, hne, hai, hae⟩, fun b hb => ?_⟩
    · rw [show ((i + 1 : Nat) : Int) = (i : Int) + 1 by omega]; exact he'
    · have hb' : b < s.heap.objs.size := by
        rcases (show b = e ∨ b = it by simpa using hb) with z | z
        · exact z ▸ hel
        · exact z ▸ hil
      rw [upd_ne (Nat.ne_of_lt hb')]
      exact (hf b hb).1
  done := by
    intro X hP hw hK hc i pins s σ H E I hf st hg
    subst hP hw hK
    obtain ⟨⟨old, he⟩, hit, hne, hai, hae⟩ := st
    obtain ⟨xs, hq, hx⟩ := hg
    obtain ⟨its, rv, p, hz⟩ := I.tuple hq
    obtain ⟨f0, f1, f2, f3, f4, f5⟩ := hf it (by simp)
    have hl := rv.length
    have fin : ∀ h' : Heap, Heap.ExtBut it s.heap h' → Inv X pins σ H { s with heap := h' } := fun h' eb => I.turned (t' := s.toks) (fun b o hb q => eb b o hb q) f0 f1 f3 f4 f5
    have hT : s.TypeIs (.ref e) "enumerate" := ⟨_, he, rfl⟩
    unfold pyNext
    refine wpAny_bind (wpAny_attempt (wpAny_callSpecial?_slot (name := Str.ofString "__next__") hT F.slot_enumerate_next (wpAny_call_entry F.slot_enumerate_next hT F.entry_enumerate_next ?_ (F.args_enumerate_next_1 _))))
    show wpAny _ _ (PySem.field (.ref e) 2 >>= _) _ _ _
    refine wpAny_bind (wpAny_field he rfl (x := .ref it) rfl ?_)
    refine wpAny_bind (wpAny_nextOf_tuple_end (I.ok.hd hc) hit (show s.heap.IsTuple a its.toArray from p) (by simp; omega) fun h' x eb ⟨o, ho, hcl⟩ => ?_)
    refine wpAny_bind (wpAny_isInstance (T := "StopIteration") (b := true) ⟨o, ho, hcl⟩ isSubtype_stop (wpAny_pure ?_))
    exact ⟨rfl, fin h' eb⟩
  self := fun A i s Q E st h => wpAny_pyIter_enum st.1.choose_spec h
def iEnumT (K : PySem.W.Frag) (ta : TA) : TI := fun σ H R => ta σ H fun vs H1 => ∃ a xs, vs = [.ref a] ∧ SqT K H1 a xs ∧ R (IteT K a) H1
theorem pi_enumT {X : Cx} {e : Expr} {ta : TA} {p pos tpos : Pos} {elts : List Expr} {kk : Nat} (hg : Gl X "enumerate") (hm : X.mg "enumerate" = none) (ha : PA X [e] ta) (hs : starEach [e] X.env = [(false, eval e X.env)] := by rfl) :
    PI X (.Tuple elts kk tpos) (.Call (.Name "enumerate" p) [e] [] pos) (iEnumT X.K ta) := by
  refine ⟨fun pins s σ H R I h => (Call_ (ld_blt I hg hm boot_enumerate (PyProof.Rows.callWith_type1 (thn (ha.run pos pins s σ H _ I h) fun us s1 ⟨vs, H1, I1, r1, q1⟩ => ?_) hs rfl)))⟩
  obtain ⟨a, xs, ex, hq, q⟩ := q1
  subst ex
  cases r1 with
  | cons r rr =>
    cases rr
    cases r
    obtain ⟨its, rv, p', hz⟩ := I1.tuple hq
    have hal : a < s1.heap.objs.size := by obtain ⟨_, z, _⟩ := p'; exact Heap.lt_size z
    refine enum1_call (begins_tuple a its.toArray) (show s1.heap.IsTuple a its.toArray from p') fun h' he hit hk => (wpAny_pyIter_enum he ?_)
    refine ⟨s1.heap.objs.size + 1, [s1.heap.objs.size + 1, s1.heap.objs.size], _, _, H1, rfl, I1.kept (t' := s1.toks) hk, turn_enumT a (s1.heap.objs.size + 1) s1.heap.objs.size,
      ⟨⟨.none, he⟩, ⟨_, hit, rfl, rfl⟩, Nat.succ_ne_self _, Nat.ne_of_lt hal, Nat.ne_of_lt (Nat.lt_succ_of_lt hal)⟩, fun b hb => ?_, q⟩
    have hle : s1.heap.objs.size ≤ b := by
      rcases (show b = s1.heap.objs.size + 1 ∨ b = s1.heap.objs.size by simpa using hb) with z | z
      · exact z ▸ Nat.le_succ _
      · exact z ▸ Nat.le_refl _
    exact I1.fpOk hle (I1.hok.fresh hle)
end DL
set_option Elab.async false
set_option linter.all false
set_option maxRecDepth 100000
set_option maxHeartbeats 4000000
/-! DL3: what is walked, as lists of data; list comprehensions; calls of own defs; isinstance. -/
namespace DL
open PySem PySem.Spec PyProof.Rows L2 RZ

def Sr.hide (S : Sr) (p : Addr) : Sr := { S with hid := fun b => S.hid b ∨ b = p, hA := .inl S.hA, hQ := .inl S.hQ }
section
variable {S : Sr} {H : Hp} {p : Addr}
mutual
theorem Rp.hide {v : V} {d : D} {L : List Addr} (r : Rp S H v d L) (h : ∀ a ∈ L, a ≠ p) : Rp (S.hide p) H v d L := by
  cases r with
  | non => exact .non
  | bl b => exact .bl b
  | int i => exact .int i
  | str x => exact .str x
  | src => exact .src (S := S.hide p)
  | dct e => exact .dct e
  | tup e rs => exact .tup e (rs.hide h)
  | tupk e hd rs => exact .tupk e hd (rs.hide h)
  | lst e n rs => exact .lst e (fun z => z.elim n (h _ List.mem_cons_self)) (rs.hide fun a ha => h a (List.mem_cons_of_mem _ ha))
theorem Rps.hide {vs : List V} {ds : List D} {L : List Addr} (r : Rps S H vs ds L) (h : ∀ a ∈ L, a ≠ p) : Rps (S.hide p) H vs ds L := by
  cases r with
  | nil => exact .nil
  | cons r rs => exact .cons (r.hide fun a ha => h a (List.mem_append_left _ ha)) (rs.hide fun a ha => h a (List.mem_append_right _ ha))
end
mutual
theorem Rp.show' {v : V} {d : D} {L : List Addr} (r : Rp (S.hide p) H v d L) : Rp S H v d L := by
  cases r with
  | non => exact .non
  | bl b => exact .bl b
  | int i => exact .int i
  | str x => exact .str x
  | src => exact .src
  | dct e => exact .dct e
  | tup e rs => exact .tup e rs.show'
  | tupk e hd rs => exact .tupk e hd rs.show'
  | lst e n rs => exact .lst e (fun z => n (.inl z)) rs.show'
theorem Rps.show' {vs : List V} {ds : List D} {L : List Addr} (r : Rps (S.hide p) H vs ds L) : Rps S H vs ds L := by
  cases r with
  | nil => exact .nil
  | cons r rs => exact .cons r.show' rs.show'
end
theorem SrcOk.hide {st : Src} (h : SrcOk S H st) (hp : H p ≠ none) : SrcOk (S.hide p) H st := ⟨h.ne, h.at_, h.cp, fun b hb => hb.elim (h.tr b) fun z => z ▸ hp⟩
theorem SrcOk.show' {st : Src} (h : SrcOk (S.hide p) H st) : SrcOk S H st := ⟨h.ne, h.at_, h.cp, fun b hb => h.tr b (.inl hb)⟩
theorem Rs.hide {σ : L2.St} {δ : Ev} (r : Rs S H σ δ) (h : ∀ xs, H p ≠ some (.lst xs)) : Rs (S.hide p) H σ δ := ⟨r.len, fun i d e => by
  obtain ⟨v, L, h1, h2⟩ := r.at_ i d e
  exact ⟨v, L, h1, h2.hide fun a ha z => by
    obtain ⟨_, xs, q⟩ := h2.ne a ha
    exact h xs (z ▸ q)⟩⟩
end

/-- J yields the data ds; La: the lists that it leans on -/
structure Wk (S : Sr) (J : It) (H1 : Hp) (ds : List D) (La : List Addr) : Prop where
  la : ∀ a ∈ La, ¬ S.hid a ∧ ∃ xs, H1 a = some (.lst xs)
  go : ∀ i H, HE (fun b => b ∉ La) H1 H → i < ds.length → J.go i H
  yld : ∀ i H x H', HE (fun b => b ∉ La) H1 H → S.tr H → i < ds.length → J.yld i H x H' → ∃ d L, ds[i]? = some d ∧ HE0 H H' ∧ Rp S H' x d L ∧ ∀ a ∈ L, a ∈ La
  stop : ∀ i H, HE (fun b => b ∉ La) H1 H → ds.length ≤ i → J.stop i H
abbrev FI := Ev → M (List D)
def tI (h : FI) : TI := fun σ H R => ∃ S δ st ds st', Rs S H σ δ ∧ SrcOk S H st ∧ h δ st = some (ds, st') ∧ ∀ J H1 La, Ext S H H1 → SrcOk S H1 st' → Wk S J H1 ds La → R J H1
/-- .. whose lists are new -/
def tIF (h : FI) : TI := fun σ H R => ∃ S δ st ds st', Rs S H σ δ ∧ SrcOk S H st ∧ h δ st = some (ds, st') ∧ ∀ J H1 La, Ext S H H1 → SrcOk S H1 st' → Wk S J H1 ds La → (∀ a ∈ La, H a = none) → R J H1
abbrev DI (X : Cx) (tg e : Expr) (h : FI) : Prop := PI X tg e (tI h)
abbrev DIF (X : Cx) (tg e : Expr) (h : FI) : Prop := PI X tg e (tIF h)
theorem dif {X : Cx} {tg e : Expr} {h : FI} (p : DIF X tg e h) : DI X tg e h := p.imp fun σ H R ⟨S, δ, st, ds, st', rs, so, e, q⟩ => ⟨S, δ, st, ds, st', rs, so, e, fun J H1 La x1 so1 wk _ => q J H1 La x1 so1 wk⟩

def iSeq (f : FE) : FI := fun δ => (f δ).bd fun d => M.of d.items
theorem wk_lst {K : PySem.W.Frag} {S : Sr} {H : Hp} {a : Addr} {vs : List V} {ds : List D} {L : List Addr} (h : H a = some (.lst vs)) (n : ¬ S.hid a) (r : Rps S H vs ds L) : Wk S (Itl K a) H ds (a :: L) where
  la := fun b hb => by
    rcases List.mem_cons.mp hb with rfl | hb
    · exact ⟨n, _, h⟩
    · exact r.ne b hb
  go := fun i H' k hi => by
    have e := k.lst a _ (fun z => z List.mem_cons_self) h
    have hi' : i < vs.length := by rw [r.len]; exact hi
    exact ⟨vs, vs[i], SqL.of e, by simp [hi']⟩
  yld := fun i H' x H2 k tr hi ⟨e1, e2⟩ => by
    subst e1
    have e := k.lst a _ (fun z => z List.mem_cons_self) h
    obtain ⟨v, L', h1, h2, h3⟩ := r.get (List.getElem?_eq_getElem hi)
    have hx := e2 vs (SqL.of e)
    rw [h1] at hx
    cases hx
    exact ⟨_, L', List.getElem?_eq_getElem hi, HE.refl, h2.ext k (fun b hb z => z (List.mem_cons_of_mem _ (h3 b hb))), fun b hb => List.mem_cons_of_mem _ (h3 b hb)⟩
  stop := fun i H' k hi => ⟨vs, SqL.of (k.lst a _ (fun z => z List.mem_cons_self) h), by rw [r.len]; exact hi⟩
theorem HE.rdt {W : Addr → Prop} {H H' : Hp} {a : Addr} {vs : List V} (k : HE W H H') (h : Rd H a (.tup vs)) : Rd H' a (.tup vs) := h.elim (fun z => .inl (k.tup a _ z)) fun ⟨o, z⟩ => .inr ⟨o, k.fz a o _ z⟩
theorem wk_tup {K : PySem.W.Frag} {S : Sr} {H : Hp} {a : Addr} {vs : List V} {ds : List D} {L : List Addr} (h : Rd H a (.tup vs)) (r : Rps S H vs ds L) : Wk S (Itt K a) H ds L where
  la := r.ne
  go := fun i H' k hi => by
    have e := k.rdt h
    have hi' : i < vs.length := by rw [r.len]; exact hi
    exact ⟨vs, vs[i], .inl e, by simp [hi']⟩
  yld := fun i H' x H2 k tr hi ⟨e1, e2⟩ => by
    subst e1
    have e := k.rdt h
    obtain ⟨v, L', h1, h2, h3⟩ := r.get (List.getElem?_eq_getElem hi)
    have hx := e2 vs (.inl e)
    rw [h1] at hx
    cases hx
    exact ⟨_, L', List.getElem?_eq_getElem hi, HE.refl, h2.ext k (fun b hb z => z (h3 b hb)), h3⟩
  stop := fun i H' k hi => ⟨vs, .inl (k.rdt h), by rw [r.len]; exact hi⟩
/-- a list of pairs (i, item) -/
def enumD : Nat → List D → List D
  | _, [] => []
  | i, d :: ds => .tup [.int (i : Nat), d] :: enumD (i + 1) ds
theorem enumD_len : ∀ (ds : List D) (i : Nat), (enumD i ds).length = ds.length
  | [], _ => rfl
  | d :: ds, i => by simp [enumD, enumD_len ds]
theorem enumD_get : ∀ (ds : List D) (k i : Nat), (enumD k ds)[i]? = ds[i]?.map fun d => .tup [.int ((k + i : Nat) : Int), d]
  | [], _, _ => by simp [enumD]
  | d :: ds, k, 0 => by simp [enumD]
  | d :: ds, k, i + 1 => by
    simp only [enumD, List.getElem?_cons_succ]
    rw [enumD_get ds (k + 1) i, show k + 1 + i = k + (i + 1) by omega]
theorem wk_enumL {K : PySem.W.Frag} {S : Sr} {H : Hp} {a : Addr} {vs : List V} {ds : List D} {L : List Addr} (h : H a = some (.lst vs)) (n : ¬ S.hid a) (r : Rps S H vs ds L) : Wk S (Ite K a) H (enumD 0 ds) (a :: L) where
  la := (wk_lst (K := K) h n r).la
  go := fun i H' k hi => (wk_lst (K := K) h n r).go i H' k (by rwa [enumD_len] at hi)
  yld := fun i H' x H2 k tr hi ⟨T, y, e1, e2, e3, e4⟩ => by
    subst e1 e3
    rw [enumD_len] at hi
    obtain ⟨d, L', h1, _, h3, h4⟩ := (wk_lst (K := K) h n r).yld i H' y H' k tr hi ⟨rfl, e4⟩
    refine ⟨.tup [.int (i : Nat), d], L', by rw [enumD_get, h1]; simp, HE.fresh e2, ?_, h4⟩
    have q := Rps.cons (Rp.int (S := S) (H := upd H' T (.tup [.int (i : Nat), y])) (i : Nat)) (Rps.one (h3.ext0 (HE.fresh e2)))
    exact .tup upd_same (by simpa using q)
  stop := fun i H' k hi => (wk_lst (K := K) h n r).stop i H' k (by rwa [enumD_len] at hi)
theorem wk_enumT {K : PySem.W.Frag} {S : Sr} {H : Hp} {a : Addr} {vs : List V} {ds : List D} {L : List Addr} (h : Rd H a (.tup vs)) (r : Rps S H vs ds L) : Wk S (IteT K a) H (enumD 0 ds) L where
  la := r.ne
  go := fun i H' k hi => (wk_tup (K := K) h r).go i H' k (by rwa [enumD_len] at hi)
  yld := fun i H' x H2 k tr hi ⟨T, y, e1, e2, e3, e4⟩ => by
    subst e1 e3
    rw [enumD_len] at hi
    obtain ⟨d, L', h1, _, h3, h4⟩ := (wk_tup (K := K) h r).yld i H' y H' k tr hi ⟨rfl, e4⟩
    refine ⟨.tup [.int (i : Nat), d], L', by rw [enumD_get, h1]; simp, HE.fresh e2, ?_, h4⟩
    have q := Rps.cons (Rp.int (S := S) (H := upd H' T (.tup [.int (i : Nat), y])) (i : Nat)) (Rps.one (h3.ext0 (HE.fresh e2)))
    exact .tup upd_same (by simpa using q)
  stop := fun i H' k hi => (wk_tup (K := K) h r).stop i H' k (by rwa [enumD_len] at hi)
/-- a range's ints -/
def rngD (lo : Int) : Nat → List D
  | 0 => []
  | n + 1 => .int lo :: rngD (lo + 1) n
theorem rngD_len : ∀ (n : Nat) (lo : Int), (rngD lo n).length = n
  | 0, _ => rfl
  | n + 1, lo => by simp [rngD, rngD_len n]
theorem rngD_get : ∀ (n : Nat) (lo : Int) (i : Nat), i < n → (rngD lo n)[i]? = some (.int (lo + (i : Nat)))
  | n + 1, lo, 0, _ => by simp [rngD]
  | n + 1, lo, i + 1, h => by
    simp only [rngD, List.getElem?_cons_succ]
    rw [rngD_get n (lo + 1) i (by omega), show lo + 1 + (i : Int) = lo + ((i + 1 : Nat) : Int) by omega]
theorem wk_rng {S : Sr} {H : Hp} (lo : Int) (n : Nat) : Wk S (Itr lo n) H (rngD lo n) [] where
  la := fun _ h => nomatch h
  go := fun i H' k hi => by rw [rngD_len] at hi; exact hi
  yld := fun i H' x H2 k tr hi ⟨e1, e2⟩ => by
    subst e1 e2
    rw [rngD_len] at hi
    exact ⟨_, [], rngD_get n lo i hi, HE.refl, .int _, fun _ h => h⟩
  stop := fun i H' k hi => by rw [rngD_len] at hi; exact hi
def zipD : List D → List D → List D
  | d :: ds, e :: es => .tup [d, e] :: zipD ds es
  | _, _ => []
theorem zipD_get : ∀ (ds es : List D) (i : Nat) (d e : D), ds[i]? = some d → es[i]? = some e → (zipD ds es)[i]? = some (.tup [d, e])
  | d :: ds, e :: es, 0, _, _, h1, h2 => by cases h1; cases h2; rfl
  | d :: ds, e :: es, i + 1, _, _, h1, h2 => by
    simp only [zipD, List.getElem?_cons_succ] at *
    exact zipD_get ds es i _ _ h1 h2
  | [], _, _, _, _, h1, _ => by simp at h1
  | _ :: _, [], _, _, _, _, h2 => by simp at h2
theorem zipD_len : ∀ (ds es : List D), (zipD ds es).length = min ds.length es.length
  | [], es => by simp [zipD]
  | d :: ds, [] => by simp [zipD]
  | d :: ds, e :: es => by simp [zipD, zipD_len ds es]
theorem wk_zipT {K : PySem.W.Frag} {S : Sr} {H : Hp} {a b : Addr} {vs ws : List V} {ds es : List D} {L L' : List Addr} (h : Rd H a (.tup vs)) (r : Rps S H vs ds L) (h' : Rd H b (.tup ws)) (r' : Rps S H ws es L') : Wk S (ItzT K a b) H (zipD ds es) (L ++ L') where
  la := fun c hc => (List.mem_append.mp hc).elim (r.ne c) (r'.ne c)
  go := fun i H1 k hi => by
    rw [zipD_len] at hi
    have h1 : i < vs.length := by rw [r.len]; omega
    have h2 : i < ws.length := by rw [r'.len]; omega
    exact ⟨vs, ws, vs[i], ws[i], .inl (k.rdt h), .inl (k.rdt h'), by simp [h1], by simp [h2]⟩
  yld := fun i H1 x H2 k tr hi ⟨T, y, z, e1, e2, e3, e4, e5⟩ => by
    subst e1 e3
    rw [zipD_len] at hi
    have h1 : i < ds.length := by omega
    have h2 : i < es.length := by omega
    obtain ⟨v, L1, p1, p2, p3⟩ := r.get (List.getElem?_eq_getElem h1)
    obtain ⟨w, L2', q1, q2, q3⟩ := r'.get (List.getElem?_eq_getElem h2)
    have hx := e4 vs (.inl (k.rdt h))
    rw [p1] at hx
    cases hx
    have hy := e5 ws (.inl (k.rdt h'))
    rw [q1] at hy
    cases hy
    have he : HE0 H1 (upd H1 T (.tup [y, z])) := HE.fresh e2
    have rv := (p2.ext k (fun c hc m => m (List.mem_append_left _ (p3 c hc)))).ext0 he
    have rw' := (q2.ext k (fun c hc m => m (List.mem_append_right _ (q3 c hc)))).ext0 he
    exact ⟨_, L1 ++ L2', zipD_get ds es i _ _ (List.getElem?_eq_getElem h1) (List.getElem?_eq_getElem h2), he, .tup upd_same (.cons rv (Rps.one rw')), fun c hc => (List.mem_append.mp hc).elim (fun m => List.mem_append_left _ (p3 c m)) fun m => List.mem_append_right _ (q3 c m)⟩
  stop := fun i H1 k hi => by
    rw [zipD_len] at hi
    exact ⟨vs, ws, .inl (k.rdt h), .inl (k.rdt h'), by rw [r.len, r'.len]; omega⟩
theorem wk_zipL {K : PySem.W.Frag} {S : Sr} {H : Hp} {a b : Addr} {vs ws : List V} {ds es : List D} {L L' : List Addr} (h : H a = some (.lst vs)) (n : ¬ S.hid a) (r : Rps S H vs ds L) (h' : H b = some (.lst ws)) (n' : ¬ S.hid b) (r' : Rps S H ws es L') : Wk S (Itz K a b) H (zipD ds es) ((a :: L) ++ (b :: L')) where
  la := fun c hc => (List.mem_append.mp hc).elim (fun m => (List.mem_cons.mp m).elim (fun e => e ▸ ⟨n, _, h⟩) (r.ne c)) (fun m => (List.mem_cons.mp m).elim (fun e => e ▸ ⟨n', _, h'⟩) (r'.ne c))
  go := fun i H1 k hi => by
    rw [zipD_len] at hi
    have h1 : i < vs.length := by rw [r.len]; omega
    have h2 : i < ws.length := by rw [r'.len]; omega
    exact ⟨vs, ws, vs[i], ws[i], SqL.of (k.lst a _ (fun z => z (by simp)) h), SqL.of (k.lst b _ (fun z => z (by simp)) h'), by simp [h1], by simp [h2]⟩
  yld := fun i H1 x H2 k tr hi ⟨T, y, z, e1, e2, e3, e4, e5⟩ => by
    subst e1 e3
    rw [zipD_len] at hi
    have h1 : i < ds.length := by omega
    have h2 : i < es.length := by omega
    obtain ⟨v, L1, p1, p2, p3⟩ := r.get (List.getElem?_eq_getElem h1)
    obtain ⟨w, L2', q1, q2, q3⟩ := r'.get (List.getElem?_eq_getElem h2)
    have hx := e4 vs (SqL.of (k.lst a _ (fun z => z (by simp)) h))
    rw [p1] at hx
    cases hx
    have hy := e5 ws (SqL.of (k.lst b _ (fun z => z (by simp)) h'))
    rw [q1] at hy
    cases hy
    have he : HE0 H1 (upd H1 T (.tup [y, z])) := HE.fresh e2
    have rv := (p2.ext k (fun c hc m => m (List.mem_append_left _ (List.mem_cons_of_mem _ (p3 c hc))))).ext0 he
    have rw' := (q2.ext k (fun c hc m => m (List.mem_append_right _ (List.mem_cons_of_mem _ (q3 c hc))))).ext0 he
    exact ⟨_, L1 ++ L2', zipD_get ds es i _ _ (List.getElem?_eq_getElem h1) (List.getElem?_eq_getElem h2), he, .tup upd_same (.cons rv (Rps.one rw')), fun c hc => (List.mem_append.mp hc).elim (fun m => List.mem_append_left _ (List.mem_cons_of_mem _ (p3 c m))) fun m => List.mem_append_right _ (List.mem_cons_of_mem _ (q3 c m))⟩
  stop := fun i H1 k hi => by
    rw [zipD_len] at hi
    exact ⟨vs, ws, SqL.of (k.lst a _ (fun z => z (by simp)) h), SqL.of (k.lst b _ (fun z => z (by simp)) h'), by rw [r.len, r'.len]; omega⟩

section
variable {X : Cx} {tg : Expr}
theorem _root_.L2.PI.or {e : Expr} {t t' : TI} (p : PI X tg e t) (p' : PI X tg e t') : PI X tg e (fun σ H R => t σ H R ∨ t' σ H R) := ⟨fun pins s σ H R I w => w.elim (p.run pins s σ H R I) (p'.run pins s σ H R I)⟩
theorem di_seq {e : Expr} {f : FE} (he : DE X e f) : DI X tg e (iSeq f) := ((pi_list he).or (pi_tup he)).imp fun σ H R ⟨S, δ, st, ds, st', rs, so, e, q⟩ => by
  obtain ⟨d, s1, ea, e⟩ := bd_inv e
  obtain ⟨eo, es⟩ := of_inv e
  subst es
  cases d with
  | lst xs =>
    cases eo
    refine .inl ⟨S, δ, st, _, _, rs, so, ea, fun v H1 L x1 so1 r => ?_⟩
    obtain ⟨a, vs, L1, rfl, ha, na, rs', rfl⟩ := r.ilst
    exact ⟨a, rfl, ⟨vs, SqL.of ha⟩, q _ H1 _ x1 so1 (wk_lst ha na rs')⟩
  | tup xs =>
    cases eo
    refine .inr ⟨S, δ, st, _, _, rs, so, ea, fun v H1 L x1 so1 r => ?_⟩
    obtain ⟨a, vs, rfl, ha, rs'⟩ := r.itup
    exact ⟨a, rfl, ⟨vs, SqT.of ha⟩, q _ H1 _ x1 so1 (wk_tup (.inl ha) rs')⟩
  | tupk xs =>
    cases eo
    refine .inr ⟨S, δ, st, _, _, rs, so, ea, fun v H1 L x1 so1 r => ?_⟩
    obtain ⟨a, ob, vs, rfl, ha, _, rs'⟩ := r.itupk
    exact ⟨a, rfl, ⟨vs, .inl (.inr ⟨_, ha⟩)⟩, q _ H1 _ x1 so1 (wk_tup (.inr ⟨_, ha⟩) rs')⟩
  | _ => cases eo
def rg1 : List D → Option (List D)
  | [.int j] => if j.natAbs ≤ 1000000 then some (rngD 0 j.toNat) else none
  | _ => none
def rg2 : List D → Option (List D)
  | [.int i, .int j] => if i.natAbs ≤ 1000000 ∧ j.natAbs ≤ 1000000 then some (rngD i (j - i).toNat) else none
  | _ => none
def iOf (o : List D → Option (List D)) (fs : Ev → M (List D)) : FI := fun δ => (fs δ).bd fun ds => M.of (o ds)
theorem dif_range1 {a : Expr} {fs : Ev → M (List D)} {p pos : Pos} (hg : Gl X "range") (hm : X.mg "range" = none) (ha : DA X [a] fs) (hs : starEach [a] X.env = [(false, eval a X.env)] := by rfl) : DIF X tg (.Call (.Name "range" p) [a] [] pos) (iOf rg1 fs) :=
  (pi_range1 hg hm ha hs).imp fun σ H R ⟨S, δ, st, ds, st', rs, so, e, q⟩ => by
  obtain ⟨xs, s1, ea, e⟩ := bd_inv e
  obtain ⟨eo, es⟩ := of_inv e
  subst es
  refine ⟨S, δ, st, xs, _, rs, so, ea, fun vs H1 L x1 so1 r => ?_⟩
  match xs, eo with
  | [.int j], eo =>
    have eo : (if j.natAbs ≤ 1000000 then some (rngD 0 j.toNat) else none) = some ds := eo
    obtain ⟨v, rfl, r1⟩ := r.i1
    obtain ⟨rfl, rfl⟩ := r1.iint
    by_cases h : j.natAbs ≤ 1000000
    · rw [if_pos h] at eo
      cases eo
      exact ⟨j, rfl, by omega, by omega, q _ H1 [] x1 so1 (wk_rng 0 j.toNat) (fun _ z => nomatch z)⟩
    · rw [if_neg h] at eo; cases eo
theorem dif_range2 {a b : Expr} {fs : Ev → M (List D)} {p pos : Pos} (hg : Gl X "range") (hm : X.mg "range" = none) (ha : DA X [a, b] fs) (hs : starEach [a, b] X.env = [(false, eval a X.env), (false, eval b X.env)] := by rfl) (hs2 : starEach [b] X.env = [(false, eval b X.env)] := by rfl) :
    DIF X tg (.Call (.Name "range" p) [a, b] [] pos) (iOf rg2 fs) :=
  (pi_range2 hg hm ha hs hs2).imp fun σ H R ⟨S, δ, st, ds, st', rs, so, e, q⟩ => by
  obtain ⟨xs, s1, ea, e⟩ := bd_inv e
  obtain ⟨eo, es⟩ := of_inv e
  subst es
  refine ⟨S, δ, st, xs, _, rs, so, ea, fun vs H1 L x1 so1 r => ?_⟩
  match xs, eo with
  | [.int i, .int j], eo =>
    have eo : (if i.natAbs ≤ 1000000 ∧ j.natAbs ≤ 1000000 then some (rngD i (j - i).toNat) else none) = some ds := eo
    obtain ⟨v, u, L1, L2', rfl, r1, r2⟩ := r.i2
    obtain ⟨rfl, rfl⟩ := r1.iint
    obtain ⟨rfl, rfl⟩ := r2.iint
    by_cases h : i.natAbs ≤ 1000000 ∧ j.natAbs ≤ 1000000
    · rw [if_pos h] at eo
      cases eo
      exact ⟨i, j, rfl, ⟨by omega, by omega, by omega, by omega⟩, q _ H1 [] x1 so1 (wk_rng i (j - i).toNat) (fun _ z => nomatch z)⟩
    · rw [if_neg h] at eo; cases eo
def en1 : List D → Option (List D)
  | [d] => d.items.map (enumD 0)
  | _ => none
theorem di_enum {e : Expr} {fs : Ev → M (List D)} {p pos tpos : Pos} {elts : List Expr} {kk : Nat} (hg : Gl X "enumerate") (hm : X.mg "enumerate" = none) (ha : DA X [e] fs) (hs : starEach [e] X.env = [(false, eval e X.env)] := by rfl) :
    DI X (.Tuple elts kk tpos) (.Call (.Name "enumerate" p) [e] [] pos) (iOf en1 fs) := ((pi_enum hg hm ha hs).or (pi_enumT hg hm ha hs)).imp fun σ H R ⟨S, δ, st, ds, st', rs, so, e, q⟩ => by
  obtain ⟨xs, s1, ea, e⟩ := bd_inv e
  obtain ⟨eo, es⟩ := of_inv e
  subst es
  match xs, eo with
  | [d], eo =>
    obtain ⟨ys, e1, e2⟩ := Option.map_eq_some_iff.mp (show d.items.map (enumD 0) = some ds from eo)
    subst e2
    cases d with
    | lst xs =>
      cases e1
      refine .inl ⟨S, δ, st, _, _, rs, so, ea, fun vs H1 L x1 so1 r => ?_⟩
      obtain ⟨v, rfl, r1⟩ := r.i1
      obtain ⟨a, vs, L1, rfl, ha, na, rs', rfl⟩ := r1.ilst
      exact ⟨a, vs, rfl, SqL.of ha, q _ H1 _ x1 so1 (wk_enumL ha na rs')⟩
    | tup xs =>
      cases e1
      refine .inr ⟨S, δ, st, _, _, rs, so, ea, fun vs H1 L x1 so1 r => ?_⟩
      obtain ⟨v, rfl, r1⟩ := r.i1
      obtain ⟨a, vs, rfl, ha, rs'⟩ := r1.itup
      exact ⟨a, vs, rfl, SqT.of ha, q _ H1 _ x1 so1 (wk_enumT (.inl ha) rs')⟩
    | tupk xs =>
      cases e1
      refine .inr ⟨S, δ, st, _, _, rs, so, ea, fun vs H1 L x1 so1 r => ?_⟩
      obtain ⟨v, rfl, r1⟩ := r.i1
      obtain ⟨a, ob, vs, rfl, ha, _, rs'⟩ := r1.itupk
      exact ⟨a, vs, rfl, .inl (.inr ⟨_, ha⟩), q _ H1 _ x1 so1 (wk_enumT (.inr ⟨_, ha⟩) rs')⟩
    | _ => cases e1
def zp2 : List D → Option (List D)
  | [.tup xs, .tup ys] => some (zipD xs ys)
  | [.lst xs, .lst ys] => some (zipD xs ys)
  | _ => none
theorem di_zip {e e2 : Expr} {fs : Ev → M (List D)} {p pos tpos : Pos} {elts : List Expr} {kk : Nat} (hg : Gl X "zip") (hm : X.mg "zip" = none) (ha : DA X [e, e2] fs)
    (hs : starEach [e, e2] X.env = (false, eval e X.env) :: starEach [e2] X.env := by rfl) (hpl : (backTo pos (starEach [e2] X.env)).any (·.1) = false := by rfl) :
    DI X (.Tuple elts kk tpos) (.Call (.Name "zip" p) [e, e2] [] pos) (iOf zp2 fs) := (pi_zipA hg hm ha hs hpl).imp fun σ H R ⟨S, δ, st, ds, st', rs, so, e, q⟩ => by
  obtain ⟨xs, s1, ea, e⟩ := bd_inv e
  obtain ⟨eo, es⟩ := of_inv e
  subst es
  refine ⟨S, δ, st, xs, _, rs, so, ea, fun vs H1 L x1 so1 r => ?_⟩
  match xs, eo with
  | [.tup xs, .tup ys], eo =>
    cases eo
    obtain ⟨v, u, L1, L2', rfl, r1, r2⟩ := r.i2
    obtain ⟨a, vs, rfl, ha, rs1⟩ := r1.itup
    obtain ⟨b, ws, rfl, hb, rs2⟩ := r2.itup
    exact ⟨a, b, vs, ws, rfl, .inr ⟨SqT.of ha, SqT.of hb, q _ H1 _ x1 so1 (wk_zipT (.inl ha) rs1 (.inl hb) rs2)⟩⟩
  | [.lst xs, .lst ys], eo =>
    cases eo
    obtain ⟨v, u, L1, L2', rfl, r1, r2⟩ := r.i2
    obtain ⟨a, vs, La, rfl, ha, na, rs1, rfl⟩ := r1.ilst
    obtain ⟨b, ws, Lb, rfl, hb, nb, rs2, rfl⟩ := r2.ilst
    exact ⟨a, b, vs, ws, rfl, .inl ⟨SqL.of ha, SqL.of hb, q _ H1 _ x1 so1 (wk_zipL ha na rs1 hb nb rs2)⟩⟩

/-! ### tuples without lists, for loops of statements -/
def lfT : D → Option (List D)
  | .tup xs => if lfs xs = true then some xs else none
  | .tupk xs => if lfs xs = true then some xs else none
  | _ => none
theorem Rp.rdt {S : Sr} {H : Hp} {v : V} {d : D} {L : List Addr} {xs : List D} (r : Rp S H v d L) (h : d = .tup xs ∨ d = .tupk xs) : ∃ a vs, v = .ref a ∧ Rd H a (.tup vs) ∧ Rps S H vs xs L := by
  rcases h with rfl | rfl
  · obtain ⟨a, vs, h1, h2, h3⟩ := r.itup
    exact ⟨a, vs, h1, .inl h2, h3⟩
  · obtain ⟨a, o, vs, h1, h2, _, h3⟩ := r.itupk
    exact ⟨a, vs, h1, .inr ⟨o, h2⟩, h3⟩
theorem lfT_inv {d : D} {xs : List D} (h : lfT d = some xs) : (d = .tup xs ∨ d = .tupk xs) ∧ lfs xs = true := by
  cases d with
  | tupk ys =>
    have h : (if lfs ys = true then some ys else none) = some xs := h
    by_cases hl : lfs ys = true
    · rw [if_pos hl] at h; cases h; exact ⟨.inr rfl, hl⟩
    · rw [if_neg hl] at h; cases h
  | tup ys =>
    have h : (if lfs ys = true then some ys else none) = some xs := h
    by_cases hl : lfs ys = true
    · rw [if_pos hl] at h; cases h; exact ⟨.inl rfl, hl⟩
    · rw [if_neg hl] at h; cases h
  | _ => cases h
def iSeqT (f : FE) : FI := fun δ => (f δ).bd fun d => M.of (lfT d)
theorem dif_seq {e : Expr} {f : FE} (he : DE X e f) : DIF X tg e (iSeqT f) := (pi_tup he).imp fun σ H R ⟨S, δ, st, ds, st', rs, so, e, q⟩ => by
  obtain ⟨d, s1, ea, e⟩ := bd_inv e
  obtain ⟨eo, es⟩ := of_inv e
  subst es
  obtain ⟨hd, hl⟩ := lfT_inv eo
  refine ⟨S, δ, st, _, _, rs, so, ea, fun v H1 L x1 so1 r => ?_⟩
  obtain ⟨a, vs, rfl, ha, rs'⟩ := r.rdt hd
  have hL := rs'.nils hl
  subst hL
  exact ⟨a, rfl, ⟨vs, .inl ha⟩, q _ H1 _ x1 so1 (wk_tup ha rs') fun _ z => nomatch z⟩
def en1T : List D → Option (List D)
  | [d] => (lfT d).map (enumD 0)
  | _ => none
theorem dif_enum {e : Expr} {fs : Ev → M (List D)} {p pos tpos : Pos} {elts : List Expr} {kk : Nat} (hg : Gl X "enumerate") (hm : X.mg "enumerate" = none) (ha : DA X [e] fs) (hs : starEach [e] X.env = [(false, eval e X.env)] := by rfl) :
    DIF X (.Tuple elts kk tpos) (.Call (.Name "enumerate" p) [e] [] pos) (iOf en1T fs) := (pi_enumT hg hm ha hs).imp fun σ H R ⟨S, δ, st, ds, st', rs, so, e, q⟩ => by
  obtain ⟨xs, s1, ea, e⟩ := bd_inv e
  obtain ⟨eo, es⟩ := of_inv e
  subst es
  match xs, eo with
  | [d], eo =>
    obtain ⟨ys, e1, e2⟩ := Option.map_eq_some_iff.mp (show (lfT d).map (enumD 0) = some ds from eo)
    subst e2
    obtain ⟨hd, hl⟩ := lfT_inv e1
    refine ⟨S, δ, st, _, _, rs, so, ea, fun vs H1 L x1 so1 r => ?_⟩
    obtain ⟨v, rfl, r1⟩ := r.i1
    obtain ⟨a, vs, rfl, ha, rs'⟩ := r1.rdt hd
    have hL := rs'.nils hl
    subst hL
    exact ⟨a, vs, rfl, .inl ha, q _ H1 _ x1 so1 (wk_enumT ha rs') fun _ z => nomatch z⟩
def zp2T : List D → Option (List D)
  | [d, e] => (lfT d).bind fun xs => (lfT e).map (zipD xs)
  | _ => none
theorem dif_zip {e e2 : Expr} {fs : Ev → M (List D)} {p pos tpos : Pos} {elts : List Expr} {kk : Nat} (hg : Gl X "zip") (hm : X.mg "zip" = none) (ha : DA X [e, e2] fs)
    (hs : starEach [e, e2] X.env = (false, eval e X.env) :: starEach [e2] X.env := by rfl) (hpl : (backTo pos (starEach [e2] X.env)).any (·.1) = false := by rfl) :
    DIF X (.Tuple elts kk tpos) (.Call (.Name "zip" p) [e, e2] [] pos) (iOf zp2T fs) := (pi_zipA hg hm ha hs hpl).imp fun σ H R ⟨S, δ, st, ds, st', rs, so, e, q⟩ => by
  obtain ⟨xs, s1, ea, e⟩ := bd_inv e
  obtain ⟨eo, es⟩ := of_inv e
  subst es
  refine ⟨S, δ, st, xs, _, rs, so, ea, fun vs H1 L x1 so1 r => ?_⟩
  match xs, eo with
  | [d, e], eo =>
    obtain ⟨xs, e1, eo⟩ := Option.bind_eq_some_iff.mp (show (lfT d).bind (fun xs => (lfT e).map (zipD xs)) = some ds from eo)
    obtain ⟨ys, e2, e3⟩ := Option.map_eq_some_iff.mp eo
    subst e3
    obtain ⟨hd, hl⟩ := lfT_inv e1
    obtain ⟨hd2, hl2⟩ := lfT_inv e2
    obtain ⟨v, u, L1, L2', rfl, r1, r2⟩ := r.i2
    obtain ⟨a, vs, rfl, ha, rs1⟩ := r1.rdt hd
    obtain ⟨b, ws, rfl, hb, rs2⟩ := r2.rdt hd2
    have hL := rs1.nils hl
    have hL2 := rs2.nils hl2
    subst hL hL2
    exact ⟨a, b, vs, ws, rfl, .inr ⟨.inl ha, .inl hb, q _ H1 _ x1 so1 (wk_zipT ha rs1 hb rs2) fun _ z => nomatch z⟩⟩
end

/-! ### targets (in a comprehension) -/
def tGd (vs : List Nat) (g : D → Ev → Option Ev) : TG := fun v σ H Q => ∃ S δ d L δ', Rs S H σ δ ∧ Rp S H v d L ∧ g d δ = some δ' ∧ ∀ σ', (∀ j, j ∉ vs → σ'[j]? = σ[j]?) → σ'.length = σ.length → Rs S H σ' δ' → Q σ' H
def tGsd (vs : List Nat) (g : List D → Ev → Option Ev) : TGs := fun xs σ H Q => ∃ S δ ds L δ', Rs S H σ δ ∧ Rps S H xs ds L ∧ g ds δ = some δ' ∧ ∀ σ', (∀ j, j ∉ vs → σ'[j]? = σ[j]?) → σ'.length = σ.length → Rs S H σ' δ' → Q σ' H
abbrev DG (X : Cx) (e : Expr) (vs : List Nat) (g : D → Ev → Option Ev) : Prop := PG X e (tGd vs g)
abbrev DGs (X : Cx) (es : List Expr) (vs : List Nat) (g : List D → Ev → Option Ev) : Prop := PGs X es (tGsd vs g)
theorem _root_.L2.PG.imp {X : Cx} {e : Expr} {t t' : TG} (p : PG X e t) (h : ∀ v σ H Q, t' v σ H Q → t v σ H Q) : PG X e t' := ⟨fun pins s σ H v u Q I r w => p.run pins s σ H v u Q I r (h v σ H Q w)⟩
theorem _root_.L2.PGs.imp {X : Cx} {e : List Expr} {t t' : TGs} (p : PGs X e t) (h : ∀ v σ H Q, t' v σ H Q → t v σ H Q) : PGs X e t' := ⟨fun pins s σ H v u Q I r w => p.run pins s σ H v u Q I r (h v σ H Q w)⟩
def gN (i : Nat) : D → Ev → Option Ev := fun d δ => some (δ.set i (.rd d))
def gs0 : List D → Ev → Option Ev := fun ds δ => match ds with | [] => some δ | _ => none
def gsC (g : D → Ev → Option Ev) (gs : List D → Ev → Option Ev) : List D → Ev → Option Ev := fun ds δ => match ds with | d :: r => (g d δ).bind (gs r) | [] => none
def gT (n : Nat) (gs : List D → Ev → Option Ev) : D → Ev → Option Ev := fun d δ => match d with | .tup ds => if ds.length = n then gs ds δ else none | _ => none
section
variable {X : Cx} {vs ws : List Nat} {pos : Pos}
theorem dg_name {i : Nat} {x : Str} (hN : X.N.Nodup) (hi : X.N[i]? = some x) (hx : Loc X.env.scope x) (hf : X.fn x = true ∨ X.env.scope.names.lookup x = some .local := by first | exact .inl rfl | exact .inr rfl | assumption) : DG X (.Name x pos) [i] (gN i) :=
  (pg_name hN hi hx hf).imp fun v σ H Q ⟨S, δ, d, L, δ', rs, r, e, q⟩ => by
  cases e
  exact q _ (fun j hj => List.getElem?_set_ne (by simpa [eq_comm] using hj)) (by simp) (rs.set fun d' e => by cases e; exact ⟨L, r⟩)
theorem dgs_nil : DGs X [] [] gs0 := pgs_nil.imp fun v σ H Q ⟨S, δ, ds, L, δ', rs, r, e, q⟩ => by
  cases r with
  | nil =>
    cases e
    exact ⟨rfl, q σ (fun _ _ => rfl) rfl rs⟩
  | cons => cases e
theorem dgs_cons {e : Expr} {es : List Expr} {g : D → Ev → Option Ev} {gs : List D → Ev → Option Ev} (h1 : DG X e vs g) (h2 : DGs X es ws gs)
    (hs : (assignEach (e :: es) X.env).map (·.2) = assign e X.env :: (assignEach es X.env).map (·.2) := by rfl) : DGs X (e :: es) (vs ++ ws) (gsC g gs) := (pgs_cons h1 h2 hs).imp fun v σ H Q ⟨S, δ, ds, L, δ', rs, r, e, q⟩ => by
  cases r with
  | nil => cases e
  | cons r rr =>
    obtain ⟨δ1, e1, e2⟩ := Option.bind_eq_some_iff.mp (show (g _ δ).bind (gs _) = some δ' from e)
    exact ⟨_, _, rfl, S, δ, _, _, δ1, rs, r, e1, fun σ' o l rs1 => ⟨S, δ1, _, _, δ', rs1, rr, e2, fun σ2 o2 l2 rs2 => q σ2 (fun j hj => (o2 j fun z => hj (List.mem_append_right _ z)).trans (o j fun z => hj (List.mem_append_left _ z))) (l2.trans l) rs2⟩⟩
theorem dg_tup {es : List Expr} {k : Nat} {n : Nat} {gs : List D → Ev → Option Ev} (hc : X.calm = true) (h : DGs X es vs gs)
    (hn : (assignEach es X.env).length = n := by rfl) (hst : (assignEach es X.env).findIdx? (·.1) = none := by rfl) : DG X (.Tuple es k pos) vs (gT n gs) := (pg_tup hc h hn hst).imp fun v σ H Q ⟨S, δ, d, L, δ', rs, r, e, q⟩ => by
  cases d with
  | tup ds =>
    have e : (if ds.length = n then gs ds δ else none) = some δ' := e
    obtain ⟨a, vs', rfl, ha, rr⟩ := r.itup
    by_cases hl : ds.length = n
    · rw [if_pos hl] at e
      exact ⟨a, vs', rfl, SqT.of ha, rr.len.trans hl, S, δ, ds, L, δ', rs, rr, e, q⟩
    · rw [if_neg hl] at e; cases e
  | _ => cases e
end

/-! ### list comprehensions -/
def wipeE (δ : Ev) : List Nat → Ev
  | [] => δ
  | v :: vs => (wipeE δ vs).set v .no
theorem Rs.setNo {S : Sr} {H : Hp} {σ : L2.St} {δ : Ev} (r : Rs S H σ δ) (i : Nat) : Rs S H (σ.set i none) (δ.set i .no) := ⟨by simp [r.len], fun j d e => by
  rw [gt_set] at e
  by_cases hij : i = j
  · subst hij
    rw [if_pos rfl] at e
    split at e <;> cases e
  · rw [if_neg hij] at e
    obtain ⟨w, L, h1, h2⟩ := r.at_ j d e
    exact ⟨w, L, by rw [List.getElem?_set_ne hij]; exact h1, h2⟩⟩
theorem Rs.wipe {S : Sr} {H : Hp} {σ : L2.St} {δ : Ev} (r : Rs S H σ δ) : ∀ vs : List Nat, Rs S H (wipe σ vs) (wipeE δ vs)
  | [] => r
  | v :: vs => (r.wipe vs).setNo v
theorem wipe_get {σ : L2.St} {j : Nat} : ∀ vs : List Nat, (wipe σ vs)[j]? = if j ∈ vs then (if j < σ.length then some none else none) else σ[j]?
  | [] => by simp [wipe]
  | v :: vs => by
    unfold wipe
    by_cases h : v = j
    · subst h
      rw [if_pos (by simp)]
      by_cases hl : v < σ.length
      · rw [if_pos hl, List.getElem?_set_self (by rw [wipe_length]; exact hl)]
      · rw [if_neg hl, List.getElem?_eq_none (by simpa [wipe_length] using hl)]
    · rw [List.getElem?_set_ne h, wipe_get vs]
      by_cases hm : j ∈ vs
      · rw [if_pos hm, if_pos (List.mem_cons_of_mem _ hm)]
      · rw [if_neg hm, if_neg (by simp [hm, Ne.symm h])]
theorem wipe_eq {σ τ : L2.St} {vs : List Nat} (h : ∀ j, j ∉ vs → τ[j]? = (wipe σ vs)[j]?) (l : τ.length = (wipe σ vs).length) : wipe τ vs = wipe σ vs := by
  rw [wipe_length] at l
  refine List.ext_getElem? fun j => ?_
  rw [wipe_get, wipe_get, l]
  by_cases hm : j ∈ vs
  · rw [if_pos hm, if_pos hm]
  · rw [if_neg hm, if_neg hm, h j hm, wipe_get, if_neg hm]
def bYes : Ev → M Bool := fun _ => M.ret true
abbrev DTs (X : Cx) (ifs : List Expr) (f : Ev → M Bool) : Prop := PTs X ifs (tBo f)
theorem _root_.L2.PTs.imp {X : Cx} {e : List Expr} {t t' : TT} (p : PTs X e t) (h : ∀ σ H Q, t' σ H Q → t σ H Q) : PTs X e t' := ⟨fun pins s σ H Q I w => p.run pins s σ H Q I (h σ H Q w)⟩
theorem dts_nil {X : Cx} : DTs X [] bYes := pts_nil.imp fun σ H Q ⟨S, δ, st, d, st', rs, so, e, q⟩ => by
  obtain ⟨e1, e2⟩ := ret_inv e
  subst e1 e2
  exact q H HE.refl so
theorem dts_one {X : Cx} {c : Expr} {f : Ev → M Bool} (h : DT X c f) : DTs X [c] f := pts_one h
/-- the items of a comprehension -/
def cLp (vs : List Nat) (g : D → Ev → Option Ev) (tt : Ev → M Bool) (te : FE) (δ : Ev) : List D → M (List D)
  | [] => M.ret []
  | x :: xs => (M.of (g x (wipeE δ vs))).bd fun δ1 => (tt δ1).bd fun b => if b = true then (te δ1).bd fun y => (cLp vs g tt te δ xs).bd fun ys => M.ret (y :: ys) else cLp vs g tt te δ xs
def eLc (h : FI) (vs : List Nat) (g : D → Ev → Option Ev) (tt : Ev → M Bool) (te : FE) : FE := fun δ => (h δ).bd fun ds => if ds.length ≤ 1000000 then (cLp vs g tt te δ ds).bd fun ys => M.ret (.lst ys) else M.no
theorem HE.out {W : Addr → Prop} {H1 H : Hp} {p : Addr} {o : HO} (h : HE W H1 H) (n : H1 p = none) : HE W H1 (upd H p o) :=
  ⟨fun b xs e => by rw [upd_ne (ne_of_none e n)]; exact h.tup b xs e, fun b xs w e => by rw [upd_ne (ne_of_none e n)]; exact h.lst b xs w e, fun b e => by
    by_cases hb : b = p
    · subst hb; exact n
    · rw [upd_ne hb] at e; exact h.new b e, fun b xs e => by rw [upd_ne (ne_of_none e n)]; exact h.dk b xs e, fun b o u e => by rw [upd_ne (ne_of_none e n)]; exact h.fz b o u e⟩
theorem HE.writeN {H : Hp} {p : Addr} {xs ys : List V} (h : H p = some (.lst xs)) : HE (fun b => b = p) H (upd H p (.lst ys)) := HE.write h rfl
theorem SrcOk.writeN {S : Sr} {H : Hp} {st : Src} {p : Addr} {ys : List V} (h : SrcOk (S.hide p) H st) (n : p ≠ S.dA) (nq : p ≠ S.q) : SrcOk (S.hide p) (upd H p (.lst ys)) st :=
  ⟨h.ne, (upd_ne (Ne.symm n)).trans h.at_, (upd_ne (Ne.symm nq)).trans h.cp, fun b hb => by
    by_cases e : b = p
    · subst e; rw [upd_same]; exact fun z => nomatch z
    · rw [upd_ne e]; exact h.tr b hb⟩
theorem tLc_imp {h : FI} {vs : List Nat} {g : D → Ev → Option Ev} {tt : Ev → M Bool} {te : FE} : ∀ σ H Q, tD (eLc h vs g tt te) σ H Q → tLc (tI h) (tGd vs g) (tBo tt) (tD te) vs σ H Q := fun σ H Q ⟨S, δ, st, d, st', rs, so, e, q⟩ => by
  obtain ⟨ds, s1, eh, e⟩ := bd_inv e
  by_cases hz : ds.length ≤ 1000000
  rotate_left
  · rw [if_neg hz] at e; cases e
  rw [if_pos hz] at e
  obtain ⟨all, s2, ec, e⟩ := bd_inv e
  obtain ⟨e1, e2⟩ := ret_inv e
  subst e1 e2
  refine ⟨S, δ, st, ds, s1, rs, so, eh, fun J H1 La x1 so1 wk Dl nD => ?_⟩
  have nA : Dl ≠ S.dA := fun z => so1.tr _ S.hA (z ▸ nD)
  have nq : Dl ≠ S.q := fun z => so1.tr _ S.hQ (z ▸ nD)
  have rs1 : Rs (S.hide Dl) H1 σ δ := (rs.extS x1).hide fun xs z => by rw [nD] at z; cases z
  have laA : ∀ b, b = S.dA → b ∉ La := fun b e hb => (wk.la b hb).1 (e ▸ S.hA)
  refine ⟨fun i m H => m = ds.length - i ∧ i ≤ ds.length ∧ ∃ acc accD L sti ys, H Dl = some (.lst acc) ∧ Rps (S.hide Dl) H acc accD L ∧ acc.length ≤ i ∧ Ext S H1 H ∧ SrcOk (S.hide Dl) H sti ∧ cLp vs g tt te δ (ds.drop i) sti = some (ys, st') ∧ accD ++ ys = all, ⟨ds.length, rfl, Nat.zero_le _, [], [], [], s1, all, upd_same, .nil, Nat.zero_le _, HE.refl.out nD, (so1.ext0 (HE.fresh nD)).hide (by rw [upd_same]; exact fun z => nomatch z), ec, rfl⟩, ?_⟩
  rintro i m H2 ⟨rfl, hi, acc, accD, L, sti, ys, hD, ra, hl, x2, so2, ec2, eall⟩
  have x2' : HE (fun b => b ∉ La) H1 H2 := x2.mono laA
  by_cases hlt : i < ds.length
  · refine .inr ⟨wk.go i H2 x2' hlt, fun H' => (fun i m H => m = ds.length - i ∧ i ≤ ds.length ∧ ∃ acc accD L sti ys, H Dl = some (.lst acc) ∧ Rps (S.hide Dl) H acc accD L ∧ acc.length ≤ i ∧ Ext S H1 H ∧ SrcOk (S.hide Dl) H sti ∧ cLp vs g tt te δ (ds.drop i) sti = some (ys, st') ∧ accD ++ ys = all) (i + 1) (ds.length - (i + 1)) H', fun H' hN => ⟨ds.length - (i + 1), by omega, hN⟩, fun x H3 y => ?_⟩
    obtain ⟨d, Ld, hd, x3, rd, hLd⟩ := wk.yld i H2 x H3 x2' so2.show'.tr hlt y
    have hdrop : ds.drop i = d :: ds.drop (i + 1) := by
      have e1 := List.drop_eq_getElem_cons hlt
      have e2 : ds[i] = d := by
        have := List.getElem?_eq_getElem hlt
        rw [this] at hd
        exact Option.some.inj hd
      rw [e1, e2]
    rw [hdrop, cLp] at ec2
    obtain ⟨δ1, t1, eg0, ec3⟩ := bd_inv ec2
    obtain ⟨eg, et⟩ := of_inv eg0
    clear eg0 ec2
    subst et
    obtain ⟨b, t2, eb, ec2⟩ := bd_inv ec3
    clear ec3
    have x13 : Ext S H1 H3 := x2.trans x3.up0
    have so3 : SrcOk (S.hide Dl) H3 t1 := so2.ext0 x3
    have hD3 : H3 Dl = some (.lst acc) := x3.lst _ _ (fun z => z) hD
    refine ⟨S.hide Dl, wipeE δ vs, d, Ld, δ1, (rs1.extS (S := S.hide Dl) x13).wipe vs, rd.hide fun a ha z => ?_, eg, fun σ2 o2 l2 rs2 => ⟨wipe_eq o2 l2, S.hide Dl, δ1, t1, b, t2, rs2, so3, eb, fun H4 x4 so4 => ?_⟩⟩
    · obtain ⟨_, xs, w⟩ := wk.la a (hLd a ha)
      rw [z, nD] at w
      cases w
    have hD4 : H4 Dl = some (.lst acc) := x4.lst _ _ nA hD3
    have ra4 : Rps (S.hide Dl) H4 acc accD L := (ra.ext0 x3).extS x4
    have x14 : Ext S H1 H4 := x13.trans x4
    cases b with
    | false =>
      rw [if_neg Bool.false_ne_true] at ec2
      refine iteF ?_
      exact ⟨rfl, hlt, acc, accD, L, t2, ys, hD4, ra4, by omega, x14, so4, ec2, eall⟩
    | true =>
      rw [if_pos rfl] at ec2
      refine iteT ?_
      obtain ⟨yD, t3, ey, ec4⟩ := bd_inv ec2
      obtain ⟨ys', t4, er, ec5⟩ := bd_inv ec4
      obtain ⟨e1, e2⟩ := ret_inv ec5
      clear ec2 ec4 ec5
      subst e1 e2
      refine ⟨S.hide Dl, δ1, t2, yD, t3, rs2.extS x4, so4, ey, fun v H5 L5 x5 so5 r5 => ?_⟩
      have hD5 : H5 Dl = some (.lst acc) := x5.lst _ _ nA hD4
      have ra5 := (ra4.extS x5).append (Rps.one r5)
      refine ⟨acc, hD5, Nat.lt_of_lt_of_le (Nat.lt_of_le_of_lt hl (Nat.lt_of_lt_of_le hlt hz)) (size_ok (Nat.le_refl _)), rfl, hlt, acc ++ [v], accD ++ [yD], _, t3, ys', upd_same, ra5.ext (HE.writeN hD5) (fun a ha z => (ra5.ne a ha).1 (.inr z)), by rw [List.length_append]; exact Nat.succ_le_succ hl, (x14.trans x5).out nD, so5.writeN nA nq, er, by rw [List.append_assoc]; exact eall⟩
  · have ei : ds.drop i = [] := List.drop_eq_nil_of_le (by omega)
    rw [ei, cLp] at ec2
    obtain ⟨e1, e2⟩ := ret_inv ec2
    subst e1 e2
    rw [List.append_nil] at eall
    subst eall
    exact .inl ⟨wk.stop i H2 x2' (by omega), q (.ref Dl) H2 (Dl :: L) (x1.trans x2) so2.show' (.lst hD (fun z => so1.tr _ z nD) ra.show')⟩
section
variable {X : Cx}
theorem d_lc {elt tg iter : Expr} {ifs : List Expr} {scope : Scope} {own : List (Str × Nat)} {pos : Pos} {h : FI} {g : D → Ev → Option Ev} {tt : Ev → M Bool} {te : FE} (hc : X.calm = true) (hN : X.N.Nodup) (hi : DI X tg iter h) (ok : BlkOk X.N X.env.scope scope own)
    (hg : ∀ (s : Shared) (H : Hp) (C : Addr) (cl : List (Str × Addr)) (fp : List Addr), DG (X.blk s H scope (compEnvC scope cl C X.env) fp) tg (own.map (·.2)) g) (ht : ∀ (s : Shared) (H : Hp) (C : Addr) (cl : List (Str × Addr)) (fp : List Addr), DTs (X.blk s H scope (compEnvC scope cl C X.env) fp) ifs tt)
    (he : ∀ (s : Shared) (H : Hp) (C : Addr) (cl : List (Str × Addr)) (fp : List Addr), DE (X.blk s H scope (compEnvC scope cl C X.env) fp) elt te) (hs : ∀ x, foldedSetIterable iter X.env x = pure x := by intro _; rfl) :
    DE X (.ListComp elt [⟨tg, iter, ifs, 0⟩] scope pos) (eLc h (own.map (·.2)) g tt te) := (pe_lc hc hN hi ok hg ht he hs).imp tLc_imp
end
end DL
set_option Elab.async false
set_option linter.all false
set_option maxRecDepth 100000
set_option maxHeartbeats 4000000
/-! DL4: new lists (DF), statements over data, defs. -/
namespace DL
open PySem PySem.Spec PyProof.Rows L2

/-! ### expressions whose lists are new -/
def tF (f : FE) : TE := fun σ H Q => ∃ S δ st d st', Rs S H σ δ ∧ SrcOk S H st ∧ f δ st = some (d, st') ∧ ∀ v H' L, Ext S H H' → SrcOk S H' st' → Rp S H' v d L → L.Nodup → (∀ a ∈ L, H a = none) → Q v H'
def tAsF (f : Ev → M (List D)) : TA := fun σ H Q => ∃ S δ st ds st', Rs S H σ δ ∧ SrcOk S H st ∧ f δ st = some (ds, st') ∧ ∀ vs H' L, Ext S H H' → SrcOk S H' st' → Rps S H' vs ds L → L.Nodup → (∀ a ∈ L, H a = none) → Q vs H'
abbrev DF (X : Cx) (e : Expr) (f : FE) : Prop := PE X e (tF f)
abbrev DAF (X : Cx) (es : List Expr) (f : Ev → M (List D)) : Prop := PA X es (tAsF f)
def eLf (f : FE) : FE := fun δ => (f δ).bd fun d => M.of (if d.lf = true then some d else none)
section
variable {X : Cx} {e : Expr} {es : List Expr} {f : FE} {fs : Ev → M (List D)} {pos : Pos}
theorem df_de (h : DF X e f) : DE X e f := h.imp fun σ H Q ⟨S, δ, st, d, st', rs, so, e, q⟩ => ⟨S, δ, st, d, st', rs, so, e, fun v H' L x so' r _ _ => q v H' L x so' r⟩
theorem df_lf (h : DE X e f) : DF X e (eLf f) := h.imp fun σ H Q ⟨S, δ, st, d, st', rs, so, e, q⟩ => by
  obtain ⟨x, s1, ea, e1⟩ := bd_inv e
  obtain ⟨eo, es⟩ := of_inv e1
  clear e1
  subst es
  by_cases hl : x.lf = true
  · rw [if_pos hl] at eo
    cases eo
    exact ⟨S, δ, st, _, _, rs, so, ea, fun v H' L x1 so1 r => q v H' L x1 so1 r (by rw [r.nil hl]; exact List.nodup_nil) (by rw [r.nil hl]; exact fun _ z => nomatch z)⟩
  · rw [if_neg hl] at eo; cases eo
theorem daf_nil : DAF X [] eAs0 := pa_nil.imp fun σ H Q ⟨S, δ, st, ds, st', rs, so, e, w⟩ => by
  obtain ⟨e1, e2⟩ := ret_inv e
  subst e1 e2
  exact w [] H [] HE.refl so .nil List.nodup_nil fun _ z => nomatch z
theorem daf_cons (ha : DF X e f) (hr : DAF X es fs) (hs : starEach (e :: es) X.env = (false, eval e X.env) :: starEach es X.env := by rfl) : DAF X (e :: es) (eAs f fs) := (pa_cons ha hr hs).imp fun σ H Q ⟨S, δ, st, ds, st', rs, so, e, w⟩ => by
  obtain ⟨x, s1, ea, e⟩ := bd_inv e
  obtain ⟨y, s2, eb, e⟩ := bd_inv e
  obtain ⟨e1, e2⟩ := ret_inv e
  subst e1 e2
  refine ⟨S, δ, st, x, s1, rs, so, ea, fun v H1 L1 x1 so1 r1 n1 f1 => ⟨S, δ, s1, y, _, rs.extS x1, so1, eb, fun vs H2 L2 x2 so2 r2 n2 f2 => w (v :: vs) H2 _ (x1.trans x2) so2 (.cons (r1.extS x2) r2) ?_ fun a ha => (List.mem_append.mp ha).elim (f1 a) fun z => x1.new a (f2 a z)⟩⟩
  refine List.nodup_append.mpr ⟨n1, n2, fun a ha b hb z => ?_⟩
  obtain ⟨_, xs, q⟩ := r1.ne a ha
  rw [z, f2 b hb] at q
  cases q
theorem df_lst (h : DAF X es fs) : DF X (.List es pos) (eLst fs) := (pe_lst h).imp fun σ H Q ⟨S, δ, st, d, st', rs, so, e, w⟩ => by
  obtain ⟨ds, s1, ea, e⟩ := bd_inv e
  obtain ⟨eo, es'⟩ := of_inv e
  subst es'
  by_cases hz : ds.length ≤ 1000000
  · rw [if_pos hz] at eo
    cases eo
    refine ⟨S, δ, st, ds, _, rs, so, ea, fun vs H1 L1 x1 so1 r1 n1 f1 => ⟨size_ok (by rw [r1.len]; exact hz), fun p np => ?_⟩⟩
    have he : HE0 H1 (upd H1 p (.lst vs)) := HE.fresh np
    refine w (.ref p) _ (p :: L1) (x1.trans he.up0) (so1.ext0 he) (.lst upd_same (fun z => so1.tr _ z np) (r1.ext0 he)) (List.nodup_cons.mpr ⟨fun hp => ?_, n1⟩) fun a ha => ?_
    · obtain ⟨_, xs, q⟩ := r1.ne p hp
      rw [np] at q
      cases q
    · rcases List.mem_cons.mp ha with rfl | ha
      · exact x1.new _ np
      · exact f1 a ha
  · rw [if_neg hz] at eo; cases eo
/-- [x] * k: the new list -/
theorem df_rep {a b : Expr} {g : FE} (ha : DE X a f) (hb : DE X b g) : DF X (.BinOp a .Mult b pos) (fun δ => (f δ).bd fun x => (g δ).bd fun y => M.of (match x, y with | .lst xs, .int k => dMul (.lst xs) (.int k) | _, _ => none)) :=
  (pe_op op_rep ha hb).imp fun σ H Q ⟨S, δ, st, d, st', rs, so, e, q⟩ => by
  obtain ⟨x, s1, ea, e⟩ := bd_inv e
  obtain ⟨y, s2, eb, e⟩ := bd_inv e
  obtain ⟨eo, es⟩ := of_inv e
  clear e
  subst es
  refine ⟨S, δ, st, x, s1, rs, so, ea, fun v H1 L1 x1 so1 r1 => ⟨S, δ, s1, y, _, rs.extS x1, so1, eb, fun w H2 L2 x2 so2 r2 => ?_⟩⟩
  match x, y, eo with
  | .lst xs, .int k, eo =>
    have eo : (if -1000 ≤ k ∧ k ≤ 1000 ∧ xs.length ≤ 1000 ∧ lfs xs = true then some (D.lst (List.replicate k.toNat xs).flatten) else none) = some d := eo
    obtain ⟨a, vs, L1', rfl, ea', na, rsa, rfl⟩ := (r1.extS x2).ilst
    obtain ⟨rfl, rfl⟩ := r2.iint
    by_cases h : -1000 ≤ k ∧ k ≤ 1000 ∧ xs.length ≤ 1000 ∧ lfs xs = true
    · rw [if_pos h] at eo
      cases eo
      have hl := rsa.len
      have hL := rsa.nils h.2.2.2
      subst hL
      refine ⟨_, k, _, rfl, rfl, ea', by omega, by omega, ?_, fun p np => ?_⟩
      · have h2 : vs.length * k.toNat ≤ 1000 * 1000 := Nat.mul_le_mul (by omega) (by omega)
        exact size_ok h2
      · exact q _ _ [p] (x1.trans (x2.trans (HE.fresh np))) (so2.ext0 (HE.fresh np)) (.lst upd_same (fun z => so2.tr _ z np) ((rsa.repl k.toNat).ext0 (HE.fresh np))) (by simp) fun b hb => by
          have : b = p := by simpa using hb
          exact this ▸ x1.new _ (x2.new _ np)
    · rw [if_neg h] at eo; cases eo
/-- list(e) of things without lists -/
def bListF : List D → Option D
  | [d] => d.items.bind fun xs => if lfs xs = true then some (.lst xs) else none
  | _ => none
theorem df_list {x : Str} {p pos : Pos} (hg : Gl X x) (hm : X.mg x = none) (hv : bootBuiltins x = some (.type "list")) (ha : DA X (e :: es) fs)
    (hn : x ≠ "__name__" := by decide) (hdb : (x == ("__debug__" : Str)) = false := by decide) (he : starEach (e :: es) X.env = (false, eval e X.env) :: starEach es X.env := by rfl) (hpl : (backTo pos (starEach es X.env)).any (·.1) = false := by rfl) :
    DF X (.Call (.Name x p) (e :: es) [] pos) (eCall bListF fs) := (pe_callTy call_list_of hg hm hv ha hn hdb he hpl).imp fun σ H Q ⟨S, δ, st, d, st', rs, so, e, q⟩ => by
  obtain ⟨xs, s1, ea, e⟩ := bd_inv e
  obtain ⟨eo, es⟩ := of_inv e
  clear e
  subst es
  refine ⟨S, δ, st, xs, _, rs, so, ea, fun vs H1 L1 x1 so1 r1 => ?_⟩
  match xs, eo with
  | [a], eo =>
    obtain ⟨v, rfl, r⟩ := r1.i1
    obtain ⟨ys, e1, e2⟩ := Option.bind_eq_some_iff.mp (show (a.items.bind fun xs => if lfs xs = true then some (D.lst xs) else none) = some d from eo)
    obtain ⟨p, vs, L', rfl, ho, rs'⟩ := r.items e1
    by_cases hl : lfs ys = true
    · rw [if_pos hl] at e2
      cases e2
      have hL := rs'.nils hl
      subst hL
      exact ⟨p, vs, rfl, ho.elim (fun z => .inl (.inl z)) fun z => .inr (.inl z), fun l nl => q _ _ [l] (x1.trans (HE.fresh nl)) (so1.ext0 (HE.fresh nl)) (.lst upd_same (fun z => so1.tr _ z nl) (rs'.ext0 (HE.fresh nl))) (by simp) fun b hb => by
        have : b = l := by simpa using hb
        exact this ▸ x1.new _ nl⟩
    · rw [if_neg hl] at e2; cases e2
end
theorem tLcF_imp {h : FI} {vs : List Nat} {g : D → Ev → Option Ev} {tt : Ev → M Bool} {te : FE} : ∀ σ H Q, tF (eLc h vs g tt te) σ H Q → tLc (tI h) (tGd vs g) (tBo tt) (tF te) vs σ H Q := fun σ H Q ⟨S, δ, st, d, st', rs, so, e, q⟩ => by
  obtain ⟨ds, s1, eh, e⟩ := bd_inv e
  by_cases hz : ds.length ≤ 1000000
  rotate_left
  · rw [if_neg hz] at e; cases e
  rw [if_pos hz] at e
  obtain ⟨all, s2, ec, e⟩ := bd_inv e
  obtain ⟨e1, e2⟩ := ret_inv e
  subst e1 e2
  refine ⟨S, δ, st, ds, s1, rs, so, eh, fun J H1 La x1 so1 wk Dl nD => ?_⟩
  have nA : Dl ≠ S.dA := fun z => so1.tr _ S.hA (z ▸ nD)
  have nq : Dl ≠ S.q := fun z => so1.tr _ S.hQ (z ▸ nD)
  have rs1 : Rs (S.hide Dl) H1 σ δ := (rs.extS x1).hide fun xs z => by rw [nD] at z; cases z
  have laA : ∀ b, b = S.dA → b ∉ La := fun b e hb => (wk.la b hb).1 (e ▸ S.hA)
  refine ⟨fun i m H => m = ds.length - i ∧ i ≤ ds.length ∧ ∃ acc accD L sti ys, H Dl = some (.lst acc) ∧ Rps (S.hide Dl) H acc accD L ∧ L.Nodup ∧ (∀ a ∈ L, H1 a = none) ∧ acc.length ≤ i ∧ Ext S H1 H ∧ SrcOk (S.hide Dl) H sti ∧ cLp vs g tt te δ (ds.drop i) sti = some (ys, st') ∧ accD ++ ys = all, ⟨ds.length, rfl, Nat.zero_le _, [], [], [], s1, all, upd_same, .nil, List.nodup_nil, (fun _ z => nomatch z), Nat.zero_le _, HE.refl.out nD, (so1.ext0 (HE.fresh nD)).hide (by rw [upd_same]; exact fun z => nomatch z), ec, rfl⟩, ?_⟩
  rintro i m H2 ⟨rfl, hi, acc, accD, L, sti, ys, hD, ra, nL, fL, hl, x2, so2, ec2, eall⟩
  have x2' : HE (fun b => b ∉ La) H1 H2 := x2.mono laA
  by_cases hlt : i < ds.length
  · refine .inr ⟨wk.go i H2 x2' hlt, fun H' => (fun i m H => m = ds.length - i ∧ i ≤ ds.length ∧ ∃ acc accD L sti ys, H Dl = some (.lst acc) ∧ Rps (S.hide Dl) H acc accD L ∧ L.Nodup ∧ (∀ a ∈ L, H1 a = none) ∧ acc.length ≤ i ∧ Ext S H1 H ∧ SrcOk (S.hide Dl) H sti ∧ cLp vs g tt te δ (ds.drop i) sti = some (ys, st') ∧ accD ++ ys = all) (i + 1) (ds.length - (i + 1)) H', fun H' hN => ⟨ds.length - (i + 1), by omega, hN⟩, fun x H3 y => ?_⟩
    obtain ⟨d, Ld, hd, x3, rd, hLd⟩ := wk.yld i H2 x H3 x2' so2.show'.tr hlt y
    have hdrop : ds.drop i = d :: ds.drop (i + 1) := by
      have e1 := List.drop_eq_getElem_cons hlt
      have e2 : ds[i] = d := by
        have := List.getElem?_eq_getElem hlt
        rw [this] at hd
        exact Option.some.inj hd
      rw [e1, e2]
    rw [hdrop, cLp] at ec2
    obtain ⟨δ1, t1, eg0, ec3⟩ := bd_inv ec2
    obtain ⟨eg, et⟩ := of_inv eg0
    clear eg0 ec2
    subst et
    obtain ⟨b, t2, eb, ec2⟩ := bd_inv ec3
    clear ec3
    have x13 : Ext S H1 H3 := x2.trans x3.up0
    have so3 : SrcOk (S.hide Dl) H3 t1 := so2.ext0 x3
    have hD3 : H3 Dl = some (.lst acc) := x3.lst _ _ (fun z => z) hD
    refine ⟨S.hide Dl, wipeE δ vs, d, Ld, δ1, (rs1.extS (S := S.hide Dl) x13).wipe vs, rd.hide fun a ha z => ?_, eg, fun σ2 o2 l2 rs2 => ⟨wipe_eq o2 l2, S.hide Dl, δ1, t1, b, t2, rs2, so3, eb, fun H4 x4 so4 => ?_⟩⟩
    · obtain ⟨_, xs, w⟩ := wk.la a (hLd a ha)
      rw [z, nD] at w
      cases w
    have hD4 : H4 Dl = some (.lst acc) := x4.lst _ _ nA hD3
    have ra4 : Rps (S.hide Dl) H4 acc accD L := (ra.ext0 x3).extS x4
    have x14 : Ext S H1 H4 := x13.trans x4
    cases b with
    | false =>
      rw [if_neg Bool.false_ne_true] at ec2
      refine iteF ?_
      exact ⟨rfl, hlt, acc, accD, L, t2, ys, hD4, ra4, nL, fL, by omega, x14, so4, ec2, eall⟩
    | true =>
      rw [if_pos rfl] at ec2
      refine iteT ?_
      obtain ⟨yD, t3, ey, ec4⟩ := bd_inv ec2
      obtain ⟨ys', t4, er, ec5⟩ := bd_inv ec4
      obtain ⟨e1, e2⟩ := ret_inv ec5
      clear ec2 ec4 ec5
      subst e1 e2
      refine ⟨S.hide Dl, δ1, t2, yD, t3, rs2.extS x4, so4, ey, fun v H5 L5 x5 so5 r5 n5 f5 => ?_⟩
      have hD5 : H5 Dl = some (.lst acc) := x5.lst _ _ nA hD4
      have ra5 := (ra4.extS x5).append (Rps.one r5)
      refine ⟨acc, hD5, Nat.lt_of_lt_of_le (Nat.lt_of_le_of_lt hl (Nat.lt_of_lt_of_le hlt hz)) (size_ok (Nat.le_refl _)), rfl, hlt, acc ++ [v], accD ++ [yD], _, t3, ys', upd_same, ra5.ext (HE.writeN hD5) (fun a ha z => (ra5.ne a ha).1 (.inr z)), ?_, fun a ha => (List.mem_append.mp ha).elim (fL a) fun z => x14.new a (f5 a z), by rw [List.length_append]; exact Nat.succ_le_succ hl, (x14.trans x5).out nD, so5.writeN nA nq, er, by rw [List.append_assoc]; exact eall⟩
      refine List.nodup_append.mpr ⟨nL, n5, fun a ha b hb z => ?_⟩
      obtain ⟨_, xs, w⟩ := ra4.ne a ha
      rw [z, f5 b hb] at w
      cases w
  · have ei : ds.drop i = [] := List.drop_eq_nil_of_le (by omega)
    rw [ei, cLp] at ec2
    obtain ⟨e1, e2⟩ := ret_inv ec2
    subst e1 e2
    rw [List.append_nil] at eall
    subst eall
    refine .inl ⟨wk.stop i H2 x2' (by omega), q (.ref Dl) H2 (Dl :: L) (x1.trans x2) so2.show' (.lst hD (fun z => so1.tr _ z nD) ra.show') (List.nodup_cons.mpr ⟨fun z => (ra.ne Dl z).1 (.inr rfl), nL⟩) fun a ha => ?_⟩
    rcases List.mem_cons.mp ha with rfl | ha
    · exact x1.new _ nD
    · exact x1.new _ (fL a ha)
section
variable {X : Cx}
theorem df_lc {elt tg iter : Expr} {ifs : List Expr} {scope : Scope} {own : List (Str × Nat)} {pos : Pos} {h : FI} {g : D → Ev → Option Ev} {tt : Ev → M Bool} {te : FE} (hc : X.calm = true) (hN : X.N.Nodup) (hi : DI X tg iter h) (ok : BlkOk X.N X.env.scope scope own)
    (hg : ∀ (s : Shared) (H : Hp) (C : Addr) (cl : List (Str × Addr)) (fp : List Addr), DG (X.blk s H scope (compEnvC scope cl C X.env) fp) tg (own.map (·.2)) g) (ht : ∀ (s : Shared) (H : Hp) (C : Addr) (cl : List (Str × Addr)) (fp : List Addr), DTs (X.blk s H scope (compEnvC scope cl C X.env) fp) ifs tt)
    (he : ∀ (s : Shared) (H : Hp) (C : Addr) (cl : List (Str × Addr)) (fp : List Addr), DF (X.blk s H scope (compEnvC scope cl C X.env) fp) elt te) (hs : ∀ x, foldedSetIterable iter X.env x = pure x := by intro _; rfl) :
    DF X (.ListComp elt [⟨tg, iter, ifs, 0⟩] scope pos) (eLc h (own.map (·.2)) g tt te) := (pe_lc hc hN hi ok hg ht he hs).imp tLcF_imp
end

/-! ### statements -/
structure RS (S : Sr) (W : Addr → Prop) (H0 H : Hp) (σ : L2.St) (δ : Ev) : Prop where
  len : σ.length = δ.length
  he : HE W H0 H
  wA : W S.dA
  wn : ∀ b, H0 b = none → W b
  sl : ∃ Λ : Nat → List Addr, (∀ i d, gt δ i = some d → ∃ v, σ[i]? = some (some v) ∧ Rp S H v d (Λ i)) ∧
    ∀ i d, δ[i]? = some (.ow d) → (Λ i).Nodup ∧ ∀ a ∈ Λ i, W a ∧ ∀ j e, j ≠ i → gt δ j = some e → a ∉ Λ j
section
variable {S : Sr} {W : Addr → Prop} {H0 H H' : Hp} {σ : L2.St} {δ : Ev}
theorem RS.rs (r : RS S W H0 H σ δ) : Rs S H σ δ := ⟨r.len, fun i d e => by
  obtain ⟨Λ, h, _⟩ := r.sl
  obtain ⟨v, h1, h2⟩ := h i d e
  exact ⟨v, _, h1, h2⟩⟩
theorem RS.ext (r : RS S W H0 H σ δ) (x : Ext S H H') : RS S W H0 H' σ δ := ⟨r.len, r.he.trans (x.mono fun b e => e ▸ r.wA), r.wA, r.wn, by
  obtain ⟨Λ, h, h2⟩ := r.sl
  exact ⟨Λ, fun i d e => by
    obtain ⟨v, a, b⟩ := h i d e
    exact ⟨v, a, b.extS x⟩, h2⟩⟩
def upN (Λ : Nat → List Addr) (i : Nat) (L : List Addr) : Nat → List Addr := fun j => if j = i then L else Λ j
theorem upN_same {Λ : Nat → List Addr} {i : Nat} {L : List Addr} : upN Λ i L i = L := if_pos rfl
theorem upN_ne {Λ : Nat → List Addr} {i j : Nat} {L : List Addr} (h : j ≠ i) : upN Λ i L j = Λ j := if_neg h
theorem gt_ow {i : Nat} {d : D} (h : δ[i]? = some (.ow d)) : gt δ i = some d := by unfold gt; rw [h]; rfl
theorem set_ow {i j : Nat} {s : Sl} {d : D} (h : (δ.set i s)[j]? = some (.ow d)) : (j = i ∧ s = .ow d) ∨ (j ≠ i ∧ δ[j]? = some (.ow d)) := by
  by_cases e : i = j
  · subst e
    by_cases hi : i < δ.length
    · rw [List.getElem?_set_self hi] at h; exact .inl ⟨rfl, Option.some.inj h⟩
    · rw [List.getElem?_eq_none (by simpa using hi)] at h; cases h
  · rw [List.getElem?_set_ne e] at h
    exact .inr ⟨Ne.symm e, h⟩
theorem RS.put {i : Nat} {v : V} {s : Sl} (r : RS S W H0 H σ δ) {L : List Addr} (hv : ∀ d, s.d = some d → Rp S H v d L)
    (h1 : ∀ d, s = .ow d → L.Nodup ∧ (∀ a ∈ L, W a)) (h2 : ∀ j e u L', gt δ j = some e → σ[j]? = some (some u) → Rp S H u e L' → ∀ a ∈ L', a ∉ L) :
    RS S W H0 H (σ.set i (some v)) (δ.set i s) := ⟨by simp [r.len], r.he, r.wA, r.wn, by
  obtain ⟨Λ, h, h3⟩ := r.sl
  have ap : ∀ j e, gt δ j = some e → ∀ a ∈ Λ j, a ∉ L := fun j e hg => by
    obtain ⟨u, a, b⟩ := h j e hg
    exact h2 j e u _ hg a b
  refine ⟨upN Λ i L, fun j d e => ?_, fun j d e => ?_⟩
  · rw [gt_set] at e
    by_cases hij : i = j
    · subst hij
      rw [if_pos rfl] at e
      by_cases hi : i < δ.length
      · rw [if_pos hi] at e
        rw [upN_same]
        exact ⟨v, by rw [List.getElem?_set_self (by rw [r.len]; exact hi)], hv d e⟩
      · rw [if_neg hi] at e; cases e
    · rw [if_neg hij] at e
      rw [upN_ne (Ne.symm hij)]
      obtain ⟨w, a, b⟩ := h j d e
      exact ⟨w, by rw [List.getElem?_set_ne hij]; exact a, b⟩
  · rcases set_ow e with ⟨rfl, es⟩ | ⟨hj, e⟩
    · rw [upN_same]
      obtain ⟨n, w⟩ := h1 d es
      refine ⟨n, fun a ha => ⟨w a ha, fun k e' hk hg => ?_⟩⟩
      rw [upN_ne hk]
      rw [gt_set, if_neg (Ne.symm hk)] at hg
      exact fun z => ap k e' hg a z ha
    · rw [upN_ne hj]
      obtain ⟨n, w⟩ := h3 j d e
      refine ⟨n, fun a ha => ⟨(w a ha).1, fun k e' hk hg => ?_⟩⟩
      by_cases hki : k = i
      · rw [hki, upN_same]
        exact ap j d (gt_ow e) a ha
      · rw [upN_ne hki]
        rw [gt_set, if_neg (Ne.symm hki)] at hg
        exact (w a ha).2 k e' hk hg⟩
theorem RS.put_lf {i : Nat} {v : V} {d : D} (r : RS S W H0 H σ δ) (hv : Rp S H v d []) : RS S W H0 H (σ.set i (some v)) (δ.set i (.rd d)) :=
  r.put (L := []) (fun d' e => by cases e; exact hv) (fun _ z => nomatch z) fun _ _ _ _ _ _ _ _ _ z => nomatch z
mutual
theorem Rp.uniq {v : V} {d : D} {L L' : List Addr} (r : Rp S H v d L) (r' : Rp S H v d L') : L = L' := by
  cases r with
  | non => cases r'; rfl
  | bl => cases r'; rfl
  | int => cases r'; rfl
  | str => cases r'; rfl
  | src => cases r'; rfl
  | dct => cases r'; rfl
  | tup h rs =>
    cases r' with
    | tup h' rs' =>
      rw [h] at h'
      cases h'
      exact rs.uniq rs'
  | tupk h _ rs =>
    cases r' with
    | tupk h' _ rs' =>
      rw [h] at h'
      cases h'
      exact rs.uniq rs'
  | lst h n rs =>
    cases r' with
    | lst h' n' rs' =>
      rw [h] at h'
      cases h'
      rw [rs.uniq rs']
theorem Rps.uniq {vs : List V} {ds : List D} {L L' : List Addr} (r : Rps S H vs ds L) (r' : Rps S H vs ds L') : L = L' := by
  cases r with
  | nil => cases r'; rfl
  | cons r rs =>
    cases r' with
    | cons r' rs' => rw [r.uniq r', rs.uniq rs']
end
theorem RS.put_new {i : Nat} {v : V} {d : D} {L : List Addr} (r : RS S W H0 H σ δ) (x : Ext S H H') (hv : Rp S H' v d L) (n : L.Nodup) (f : ∀ a ∈ L, H a = none) : RS S W H0 H' (σ.set i (some v)) (δ.set i (.ow d)) :=
  (r.ext x).put (fun d' e => by cases e; exact hv) (fun d' e => ⟨n, fun a ha => r.wn a (r.he.new a (f a ha))⟩) fun j e u L' hg hu hr a ha hL => by
    obtain ⟨Λ, h', _⟩ := r.sl
    obtain ⟨v2, e2, r2⟩ := h' j e hg
    rw [hu] at e2
    cases e2
    have := hr.uniq (r2.extS x)
    subst this
    obtain ⟨_, xs, q⟩ := r2.ne a ha
    rw [f a hL] at q
    cases q
/-- the owned list at slot i is changed -/
theorem RS.wr {i : Nat} {ds ds' : List D} {a : Addr} {vs vs' : List V} {L L' : List Addr} (r : RS S W H0 H σ δ) (hi : δ[i]? = some (.ow (.lst ds))) (ha : σ[i]? = some (some (.ref a))) (hH : H a = some (.lst vs)) (hr : Rps S H vs ds L)
    (hn : Rps S (upd H a (.lst vs')) vs' ds' L') (nd : L'.Nodup) (sub : ∀ b ∈ L', b ∈ L) (hn' : a ∉ L') : RS S W H0 (upd H a (.lst vs')) σ (δ.set i (.ow (.lst ds'))) := by
  obtain ⟨Λ, h, h2⟩ := r.sl
  obtain ⟨v, e1, rp⟩ := h i _ (gt_ow hi)
  rw [ha] at e1
  cases e1
  obtain ⟨a', vs1, L1, e2, h3, nh, rs1, eL⟩ := rp.ilst
  cases e2
  rw [hH] at h3
  cases h3
  have eL1 := rs1.uniq hr
  subst eL1
  obtain ⟨ndi, hw⟩ := h2 i _ hi
  rw [eL] at ndi hw
  have wa : W a := (hw a List.mem_cons_self).1
  have ilt : i < δ.length := gt_lt (gt_ow hi)
  refine ⟨by simp [r.len], r.he.trans (HE.write hH wa), r.wA, r.wn, upN Λ i (a :: L'), fun j d e => ?_, fun j d e => ?_⟩
  · rw [gt_set] at e
    by_cases hij : i = j
    · subst hij
      rw [if_pos rfl, if_pos ilt] at e
      cases e
      rw [upN_same]
      exact ⟨_, ha, .lst upd_same nh hn⟩
    · rw [if_neg hij] at e
      rw [upN_ne (Ne.symm hij)]
      obtain ⟨w, e1, e2⟩ := h j d e
      exact ⟨w, e1, e2.ext (HE.writeN hH) fun b hb z => (hw a List.mem_cons_self).2 j d (Ne.symm hij) e (z ▸ hb)⟩
  · have inL : ∀ b ∈ a :: L', b ∈ a :: L1 := fun b hb => (List.mem_cons.mp hb).elim (fun z => z ▸ List.mem_cons_self) fun z => List.mem_cons_of_mem _ (sub b z)
    rcases set_ow e with ⟨rfl, es⟩ | ⟨hj, e⟩
    · rw [upN_same]
      refine ⟨List.nodup_cons.mpr ⟨hn', nd⟩, fun b hb => ⟨(hw b (inL b hb)).1, fun k e' hk hg => ?_⟩⟩
      rw [upN_ne hk]
      rw [gt_set, if_neg (Ne.symm hk)] at hg
      exact (hw b (inL b hb)).2 k e' hk hg
    · rw [upN_ne hj]
      obtain ⟨n, w⟩ := h2 j d e
      refine ⟨n, fun b hb => ⟨(w b hb).1, fun k e' hk hg => ?_⟩⟩
      by_cases hki : k = i
      · subst hki
        rw [upN_same]
        intro z
        have := inL b z
        rw [← eL] at this
        exact (w b hb).2 k _ hk (gt_ow hi) this
      · rw [upN_ne hki]
        rw [gt_set, if_neg (Ne.symm hki)] at hg
        exact (w b hb).2 k e' hk hg
/-- the owned list at slot i with its address -/
theorem RS.own {i : Nat} {ds : List D} (r : RS S W H0 H σ δ) (hi : δ[i]? = some (.ow (.lst ds))) : ∃ a vs L, σ[i]? = some (some (.ref a)) ∧ H a = some (.lst vs) ∧ ¬ S.hid a ∧ Rps S H vs ds L ∧ (a :: L).Nodup := by
  obtain ⟨Λ, h, h2⟩ := r.sl
  obtain ⟨v, e1, rp⟩ := h i _ (gt_ow hi)
  obtain ⟨a', vs1, L1, e2, h3, nh, rs1, eL⟩ := rp.ilst
  subst e2
  refine ⟨a', vs1, L1, e1, h3, nh, rs1, ?_⟩
  rw [← eL]
  exact (h2 i _ hi).1
theorem SrcOk.wr {st : Src} {a : Addr} {vs : List V} (h : SrcOk S H st) (n : ¬ S.hid a) : SrcOk S (upd H a (.lst vs)) st := by
  have ne : ∀ b, S.hid b → b ≠ a := fun b hb z => n (z ▸ hb)
  refine ⟨h.ne, (upd_ne (ne _ S.hA)).trans h.at_, (upd_ne (ne _ S.hQ)).trans h.cp, fun b hb => ?_⟩
  rw [upd_ne (ne b hb)]
  exact h.tr b hb
end

/-! ### judgements of statements -/
inductive Out where
  | nx (δ : Ev) | rt (d : D) | bk (δ : Ev) | ct (δ : Ev)
abbrev FS := Ev → M Out
def Post (S : Sr) (W : Addr → Prop) (H0 : Hp) (st : Src) (D' : Ends) : Out → Prop
  | .nx δ => ∀ σ' H', RS S W H0 H' σ' δ → SrcOk S H' st → D'.nx σ' H'
  | .rt d => ∀ v H' L, HE W H0 H' → SrcOk S H' st → Rp S H' v d L → D'.rt v H'
  | .bk δ => ∀ σ' H', RS S W H0 H' σ' δ → SrcOk S H' st → D'.bk σ' H'
  | .ct δ => ∀ σ' H', RS S W H0 H' σ' δ → SrcOk S H' st → D'.ct σ' H'
def tS (g : FS) : TS := fun D' σ H => ∃ S W H0 δ st o st', RS S W H0 H σ δ ∧ SrcOk S H st ∧ g δ st = some (o, st') ∧ Post S W H0 st' D' o
abbrev DS (X : Cx) (s : Stmt) (g : FS) : Prop := PS X s (tS g)
abbrev DSs (X : Cx) (s : List Stmt) (g : FS) : Prop := PSs X s (tS g)
def sNil : FS := fun δ => M.ret (.nx δ)
def sSeq (g1 g2 : FS) : FS := fun δ => (g1 δ).bd fun o => match o with | .nx δ1 => g2 δ1 | o => M.ret o
def sExp (f : FE) : FS := fun δ => (f δ).bd fun _ => M.ret (.nx δ)
def sSet (i : Nat) (f : FE) : FS := fun δ => (f δ).bd fun d => if d.lf = true then M.ret (.nx (δ.set i (.rd d))) else M.no
def sOwn (i : Nat) (f : FE) : FS := fun δ => (f δ).bd fun d => M.ret (.nx (δ.set i (.ow d)))
def noOw (δ : Ev) : Bool := δ.all fun s => match s with | .ow _ => false | _ => true
def sSetA (i : Nat) (f : FE) : FS := fun δ => (f δ).bd fun d => if noOw δ = true then M.ret (.nx (δ.set i (.rd d))) else M.no
def sRet (f : FE) : FS := fun δ => (f δ).bd fun d => M.ret (.rt d)
def sRetN : FS := fun _ => M.ret (.rt .non)
def sIf (c : Ev → M Bool) (a b : FS) : FS := fun δ => (c δ).bd fun k => if k = true then a δ else b δ
def sNo : FS := fun _ => M.no
def sBk : FS := fun δ => M.ret (.bk δ)
def sCt : FS := fun δ => M.ret (.ct δ)
section
variable {X : Cx} {s : Stmt} {ss : List Stmt} {e : Expr} {f : FE} {g g' : FS} {pos : Pos}
theorem ds_nil : DSs X [] sNil := pss_nil.imp fun σ H Q ⟨S, W, H0, δ, st, o, st', rs, so, e, q⟩ => by
  obtain ⟨e1, e2⟩ := ret_inv e
  subst e1 e2
  exact q σ H rs so
theorem tSeq_imp : ∀ σ H Q, tS (sSeq g g') Q σ H → tSeq (tS g) (tS g') Q σ H := fun σ H Q ⟨S, W, H0, δ, st, o, st', rs, so, e, q⟩ => by
  obtain ⟨o1, s1, e1, e2⟩ := bd_inv e
  refine ⟨S, W, H0, δ, st, o1, s1, rs, so, e1, ?_⟩
  cases o1 with
  | nx δ1 => exact fun σ' H' rs' so' => ⟨S, W, H0, δ1, s1, o, st', rs', so', e2, q⟩
  | rt d => obtain ⟨e3, e4⟩ := ret_inv e2; subst e3 e4; exact q
  | bk d => obtain ⟨e3, e4⟩ := ret_inv e2; subst e3 e4; exact q
  | ct d => obtain ⟨e3, e4⟩ := ret_inv e2; subst e3 e4; exact q
theorem ds_cons (h1 : DS X s g) (h2 : DSs X ss g') : DSs X (s :: ss) (sSeq g g') := (pss_cons h1 h2).imp tSeq_imp
theorem ds_one (h : DS X s g) : DSs X [s] g := pss_one h
theorem ds_exp (he : DE X e f) (hs : swapsWith e none pos.line X.env = pure false := by rfl) : DS X (.Expr e pos) (sExp f) := (ps_expr he hs).imp fun σ H Q ⟨S, W, H0, δ, st, o, st', rs, so, e, q⟩ => by
  obtain ⟨d, s1, ea, e⟩ := bd_inv e
  obtain ⟨e1, e2⟩ := ret_inv e
  subst e1 e2
  exact ⟨S, δ, st, d, _, rs.rs, so, ea, fun v H1 L x1 so1 r => q σ H1 (rs.ext x1) so1⟩
theorem ds_doc {x j pos pos'} : DS X (.Expr (.Constant (.str x) j pos) pos') sNil := ps_doc.imp fun σ H Q ⟨S, W, H0, δ, st, o, st', rs, so, e, q⟩ => by
  obtain ⟨e1, e2⟩ := ret_inv e
  subst e1 e2
  exact q σ H rs so
theorem ds_pass : DS X (.Pass pos) sNil := ps_pass.imp fun σ H Q ⟨S, W, H0, δ, st, o, st', rs, so, e, q⟩ => by
  obtain ⟨e1, e2⟩ := ret_inv e
  subst e1 e2
  exact q σ H rs so
theorem set_imp {i : Nat} : ∀ σ H Q, tS (sSet i f) Q σ H → tAsg (tD f) (gName i) Q σ H := fun σ H Q ⟨S, W, H0, δ, st, o, st', rs, so, e, q⟩ => by
  obtain ⟨d, s1, ea, e⟩ := bd_inv e
  by_cases hl : d.lf = true
  · rw [if_pos hl] at e
    obtain ⟨e1, e2⟩ := ret_inv e
    subst e1 e2
    refine ⟨S, δ, st, d, _, rs.rs, so, ea, fun v H1 L x1 so1 r => q _ H1 ?_ so1⟩
    have hL := r.nil hl
    subst hL
    exact (rs.ext x1).put_lf r
  · rw [if_neg hl] at e; cases e
theorem setA_imp {i : Nat} : ∀ σ H Q, tS (sSetA i f) Q σ H → tAsg (tD f) (gName i) Q σ H := fun σ H Q ⟨S, W, H0, δ, st, o, st', rs, so, e, q⟩ => by
  obtain ⟨d, s1, ea, e⟩ := bd_inv e
  by_cases hl : noOw δ = true
  · rw [if_pos hl] at e
    obtain ⟨e1, e2⟩ := ret_inv e
    subst e1 e2
    refine ⟨S, δ, st, d, _, rs.rs, so, ea, fun v H1 L x1 so1 r => q _ H1 ?_ so1⟩
    have r1 := rs.ext x1
    refine ⟨by simp [r1.len], r1.he, r1.wA, r1.wn, ?_⟩
    obtain ⟨Λ, h, _⟩ := r1.sl
    refine ⟨upN Λ i L, fun j d' e => ?_, fun j d' e => ?_⟩
    · rw [gt_set] at e
      by_cases hij : i = j
      · subst hij
        rw [if_pos rfl] at e
        by_cases hi : i < δ.length
        · rw [if_pos hi] at e
          cases e
          rw [upN_same]
          exact ⟨v, by rw [List.getElem?_set_self (by rw [r1.len]; exact hi)], r⟩
        · rw [if_neg hi] at e; cases e
      · rw [if_neg hij] at e
        rw [upN_ne (Ne.symm hij)]
        obtain ⟨w, a, b⟩ := h j d' e
        exact ⟨w, by rw [List.getElem?_set_ne hij]; exact a, b⟩
    · rcases set_ow e with ⟨_, z⟩ | ⟨_, e⟩
      · cases z
      · exact absurd (List.all_eq_true.mp hl _ (List.mem_of_getElem? e)) Bool.false_ne_true
  · rw [if_neg hl] at e; cases e
theorem own_imp {i : Nat} : ∀ σ H Q, tS (sOwn i f) Q σ H → tAsg (tF f) (gName i) Q σ H := fun σ H Q ⟨S, W, H0, δ, st, o, st', rs, so, e, q⟩ => by
  obtain ⟨d, s1, ea, e⟩ := bd_inv e
  obtain ⟨e1, e2⟩ := ret_inv e
  subst e1 e2
  exact ⟨S, δ, st, d, _, rs.rs, so, ea, fun v H1 L x1 so1 r n fr => q _ H1 (rs.put_new x1 r n fr) so1⟩
section
variable {i : Nat} {x : Str} {pos' : Pos} (hN : X.N.Nodup) (hi : X.N[i]? = some x) (hx : Loc X.env.scope x)
include hN hi hx
theorem ds_set (he : DE X e f) (hs : swapsWith e (some (.Name x pos')) pos.line X.env = pure false := by rfl) (hf : X.fn x = true ∨ X.env.scope.names.lookup x = some .local := by first | exact .inl rfl | exact .inr rfl | assumption) : DS X (.Assign [.Name x pos'] e pos) (sSet i f) := (ps_set hN hi hx he hs hf).imp set_imp
theorem ds_setA (he : DE X e f) (hs : swapsWith e (some (.Name x pos')) pos.line X.env = pure false := by rfl) (hf : X.fn x = true ∨ X.env.scope.names.lookup x = some .local := by first | exact .inl rfl | exact .inr rfl | assumption) : DS X (.Assign [.Name x pos'] e pos) (sSetA i f) := (ps_set hN hi hx he hs hf).imp setA_imp
theorem ds_own (he : DF X e f) (hs : swapsWith e (some (.Name x pos')) pos.line X.env = pure false := by rfl) (hf : X.fn x = true ∨ X.env.scope.names.lookup x = some .local := by first | exact .inl rfl | exact .inr rfl | assumption) : DS X (.Assign [.Name x pos'] e pos) (sOwn i f) := (ps_set hN hi hx he hs hf).imp own_imp
end
theorem ds_setLc {i : Nat} {y : Str} {py : Pos} {elt tg iter : Expr} {ifs : List Expr} {scope : Scope} {own : List (Str × Nat)} {pos spos : Pos} {h : FI} {g : D → Ev → Option Ev} {tt : Ev → M Bool} {te : FE} (hc : X.calm = true) (hN : X.N.Nodup) (hy : X.N[i]? = some y) (hyl : X.env.scope.names.lookup y = some .local)
    (hsw : swapsWith (.ListComp elt [⟨tg, iter, ifs, 0⟩] scope pos) (some (.Name y py)) spos.line X.env = pure true) (hi : DI X tg iter h) (ok : BlkOk X.N X.env.scope scope own)
    (hg : ∀ (s : Shared) (H : Hp) (C : Addr) (cl : List (Str × Addr)) (fp : List Addr), DG (X.blk s H scope (compEnvC scope cl C X.env) fp) tg (own.map (·.2)) g) (ht : ∀ (s : Shared) (H : Hp) (C : Addr) (cl : List (Str × Addr)) (fp : List Addr), DTs (X.blk s H scope (compEnvC scope cl C X.env) fp) ifs tt)
    (he : ∀ (s : Shared) (H : Hp) (C : Addr) (cl : List (Str × Addr)) (fp : List Addr), DF (X.blk s H scope (compEnvC scope cl C X.env) fp) elt te) (hs : ∀ x, foldedSetIterable iter X.env x = pure x := by intro _; rfl) :
    DS X (.Assign [.Name y py] (.ListComp elt [⟨tg, iter, ifs, 0⟩] scope pos) spos) (sOwn i (eLc h (own.map (·.2)) g tt te)) := (ps_setLc hc hN hy hyl hsw hi ok hg ht he hs).imp fun σ H Q w => tLcF_imp σ H _ (own_imp σ H Q w)
theorem ds_ret (he : DE X e f) : DS X (.Return (some e) pos) (sRet f) := (ps_ret he).imp fun σ H Q ⟨S, W, H0, δ, st, o, st', rs, so, e, q⟩ => by
  obtain ⟨d, s1, ea, e⟩ := bd_inv e
  obtain ⟨e1, e2⟩ := ret_inv e
  subst e1 e2
  exact ⟨S, δ, st, d, _, rs.rs, so, ea, fun v H1 L x1 so1 r => q v H1 L (rs.he.trans (x1.mono fun b e => e ▸ rs.wA)) so1 r⟩
theorem ds_retN : DS X (.Return none pos) sRetN := ps_retN.imp fun σ H Q ⟨S, W, H0, δ, st, o, st', rs, so, e, q⟩ => by
  obtain ⟨e1, e2⟩ := ret_inv e
  subst e1 e2
  exact q _ H [] rs.he so .non
theorem ds_if {c : Expr} {a b : List Stmt} {t : Ev → M Bool} (hc : DT X c t) (ha : DSs X a g) (hb : DSs X b g') : DS X (.If c a b pos) (sIf t g g') := (ps_if hc ha hb).imp fun σ H Q ⟨S, W, H0, δ, st, o, st', rs, so, e, q⟩ => by
  obtain ⟨k, s1, ea, e⟩ := bd_inv e
  refine ⟨S, δ, st, k, s1, rs.rs, so, ea, fun H1 x1 so1 => ?_⟩
  cases k with
  | true =>
    rw [if_pos rfl] at e
    exact iteT ⟨S, W, H0, δ, s1, o, st', rs.ext x1, so1, e, q⟩
  | false =>
    rw [if_neg Bool.false_ne_true] at e
    exact iteF ⟨S, W, H0, δ, s1, o, st', rs.ext x1, so1, e, q⟩
theorem ds_no : DS X s sNo := ps_never.imp fun σ H Q ⟨S, W, H0, δ, st, o, st', rs, so, e, q⟩ => by cases e
theorem ds_bk : DS X (.Break pos) sBk := ps_break.imp fun σ H Q ⟨S, W, H0, δ, st, o, st', rs, so, e, q⟩ => by
  obtain ⟨e1, e2⟩ := ret_inv e
  subst e1 e2
  exact q σ H rs so
theorem ds_ct : DS X (.Continue pos) sCt := ps_continue.imp fun σ H Q ⟨S, W, H0, δ, st, o, st', rs, so, e, q⟩ => by
  obtain ⟨e1, e2⟩ := ret_inv e
  subst e1 e2
  exact q σ H rs so
end
end DL
set_option Elab.async false
set_option linter.all false
set_option maxRecDepth 100000
set_option maxHeartbeats 4000000
/-! DL5: loops, stores into lists, several targets, defs and their calls. -/
namespace DL
open PySem PySem.Spec PyProof.Rows L2

/-! ### targets of statements -/
def tGSt (g : D → Ev → Option Ev) : TG := fun v σ H Q => ∃ S W H0 δ d δ', RS S W H0 H σ δ ∧ Rp S H v d [] ∧ g d δ = some δ' ∧ ∀ σ', RS S W H0 H σ' δ' → Q σ' H
def tGSs (g : List D → Ev → Option Ev) : TGs := fun vs σ H Q => ∃ S W H0 δ ds δ', RS S W H0 H σ δ ∧ Rps S H vs ds [] ∧ g ds δ = some δ' ∧ ∀ σ', RS S W H0 H σ' δ' → Q σ' H
abbrev SG (X : Cx) (e : Expr) (g : D → Ev → Option Ev) : Prop := PG X e (tGSt g)
abbrev SGs (X : Cx) (es : List Expr) (g : List D → Ev → Option Ev) : Prop := PGs X es (tGSs g)
theorem Rps.nilc {S : Sr} {H : Hp} {v : V} {vs : List V} {d : D} {ds : List D} {L : List Addr} (r : Rps S H (v :: vs) (d :: ds) L) (h : L = []) : Rp S H v d [] ∧ Rps S H vs ds [] := by
  cases r with
  | cons r rs =>
    obtain ⟨e1, e2⟩ := List.append_eq_nil_iff.mp h
    subst e1 e2
    exact ⟨r, rs⟩
section
variable {X : Cx} {pos : Pos}
theorem sg_name {i : Nat} {x : Str} (hN : X.N.Nodup) (hi : X.N[i]? = some x) (hx : Loc X.env.scope x) (hf : X.fn x = true ∨ X.env.scope.names.lookup x = some .local := by first | exact .inl rfl | exact .inr rfl | assumption) : SG X (.Name x pos) (gN i) :=
  (pg_name hN hi hx hf).imp fun v σ H Q ⟨S, W, H0, δ, d, δ', rs, r, e, q⟩ => by
  cases e
  exact q _ (rs.put_lf r)
theorem sgs_nil : SGs X [] gs0 := pgs_nil.imp fun v σ H Q ⟨S, W, H0, δ, ds, δ', rs, r, e, q⟩ => by
  cases ds with
  | nil =>
    cases r
    cases e
    exact ⟨rfl, q σ rs⟩
  | cons d ds => cases e
theorem sgs_cons {e : Expr} {es : List Expr} {g : D → Ev → Option Ev} {gs : List D → Ev → Option Ev} (h1 : SG X e g) (h2 : SGs X es gs)
    (hs : (assignEach (e :: es) X.env).map (·.2) = assign e X.env :: (assignEach es X.env).map (·.2) := by rfl) : SGs X (e :: es) (gsC g gs) := (pgs_cons h1 h2 hs).imp fun v σ H Q ⟨S, W, H0, δ, ds, δ', rs, r, e, q⟩ => by
  cases ds with
  | nil => cases e
  | cons d ds =>
    cases v with
    | nil => cases r
    | cons v vs =>
      obtain ⟨r1, r2⟩ := r.nilc rfl
      obtain ⟨δ1, e1, e2⟩ := Option.bind_eq_some_iff.mp (show (g d δ).bind (gs ds) = some δ' from e)
      exact ⟨v, vs, rfl, S, W, H0, δ, d, δ1, rs, r1, e1, fun σ' rs1 => ⟨S, W, H0, δ1, ds, δ', rs1, r2, e2, q⟩⟩
theorem sg_tup {es : List Expr} {k : Nat} {n : Nat} {gs : List D → Ev → Option Ev} (hc : X.calm = true) (h : SGs X es gs)
    (hn : (assignEach es X.env).length = n := by rfl) (hst : (assignEach es X.env).findIdx? (·.1) = none := by rfl) : SG X (.Tuple es k pos) (gT n gs) := (pg_tup hc h hn hst).imp fun v σ H Q ⟨S, W, H0, δ, d, δ', rs, r, e, q⟩ => by
  cases d with
  | tup ds =>
    have e : (if ds.length = n then gs ds δ else none) = some δ' := e
    obtain ⟨a, vs', rfl, ha, rr⟩ := r.itup
    by_cases hl : ds.length = n
    · rw [if_pos hl] at e
      exact ⟨a, vs', rfl, SqT.of ha, rr.len.trans hl, S, W, H0, δ, ds, δ', rs, rr, e, q⟩
    · rw [if_neg hl] at e; cases e
  | _ => cases e
/-- target = value without lists -/
def sTg (f : FE) (g : D → Ev → Option Ev) : FS := fun δ => (f δ).bd fun d => (M.of (if d.lf = true then g d δ else none)).bd fun δ' => M.ret (.nx δ')
theorem ds_asg {tg e : Expr} {f : FE} {g : D → Ev → Option Ev} (he : DE X e f) (hg : SG X tg g) (hs : swapsWithSole [tg] e pos.line X.env = pure false := by rfl) (hw : swappedStores [tg] e X.env = pure none := by rfl)
    (h1 : (assignEach [tg] X.env).map (·.2) = [assign tg X.env] := by rfl) : DS X (.Assign [tg] e pos) (sTg f g) := (ps_asg he hg hs hw h1).imp fun σ H Q ⟨S, W, H0, δ, st, o, st', rs, so, e, q⟩ => by
  obtain ⟨d, s1, ea, e⟩ := bd_inv e
  obtain ⟨δ', s2, eb, e⟩ := bd_inv e
  obtain ⟨e1, e2⟩ := ret_inv e
  obtain ⟨e3, e4⟩ := of_inv eb
  clear e eb
  subst e1 e2 e4
  by_cases hl : d.lf = true
  · rw [if_pos hl] at e3
    refine ⟨S, δ, st, d, _, rs.rs, so, ea, fun v H1 L x1 so1 r => ⟨S, W, H0, δ, d, δ', rs.ext x1, ?_, e3, fun σ' rs' => q σ' H1 rs' so1⟩⟩
    have hL := r.nil hl
    subst hL
    exact r
  · rw [if_neg hl] at e3; cases e3
/-- a, b, .. = a list of things without lists -/
def sTl (f : FE) (n : Nat) (gs : List D → Ev → Option Ev) : FS := fun δ => (f δ).bd fun d => (M.of (match d with | .lst ds => if ds.length = n ∧ lfs ds = true then gs ds δ else none | _ => none)).bd fun δ' => M.ret (.nx δ')
theorem ds_asgL {es : List Expr} {k : Nat} {e : Expr} {f : FE} {n : Nat} {gs : List D → Ev → Option Ev} {tpos : Pos} (hc : X.calm = true) (he : DE X e f) (h : SGs X es gs)
    (hn : (assignEach es X.env).length = n := by rfl) (hst : (assignEach es X.env).findIdx? (·.1) = none := by rfl) (hs : swapsWithSole [.Tuple es k tpos] e pos.line X.env = pure false := by rfl) (hw : swappedStores [.Tuple es k tpos] e X.env = pure none := by rfl)
    (h1 : (assignEach [.Tuple es k tpos] X.env).map (·.2) = [assign (.Tuple es k tpos) X.env] := by rfl) : DS X (.Assign [.Tuple es k tpos] e pos) (sTl f n gs) := (ps_asg he (pg_unl hc h hn hst) hs hw h1).imp fun σ H Q ⟨S, W, H0, δ, st, o, st', rs, so, e, q⟩ => by
  obtain ⟨d, s1, ea, e⟩ := bd_inv e
  obtain ⟨δ', s2, eb, e⟩ := bd_inv e
  obtain ⟨e1, e2⟩ := ret_inv e
  obtain ⟨e3, e4⟩ := of_inv eb
  clear e eb
  subst e1 e2 e4
  cases d with
  | lst ds =>
    have e3 : (if ds.length = n ∧ lfs ds = true then gs ds δ else none) = some δ' := e3
    by_cases hl : ds.length = n ∧ lfs ds = true
    · rw [if_pos hl] at e3
      refine ⟨S, δ, st, _, _, rs.rs, so, ea, fun v H1 L x1 so1 r => ?_⟩
      obtain ⟨a, vs, L', rfl, ha, na, rr, rfl⟩ := r.ilst
      have hL := rr.nils hl.2
      subst hL
      exact ⟨a, vs, rfl, SqL.of ha, rr.len.trans hl.1, S, W, H0, δ, ds, δ', rs.ext x1, rr, e3, fun σ' rs' => q σ' H1 rs' so1⟩
    · rw [if_neg hl] at e3; cases e3
  | _ => cases e3
/-- a, b = x, y (plain locals, stored from the right) -/
def sPar (i j : Nat) (fs : Ev → M (List D)) : FS := fun δ => (fs δ).bd fun ds => match ds with | [d, e] => if lfs [d, e] = true then M.ret (.nx ((δ.set i (.rd d)).set j (.rd e))) else M.no | _ => M.no
theorem ds_par {i j : Nat} {x y : Str} {a b : Expr} {fs : Ev → M (List D)} {px py pt : Pos} {kt k2 pt2} (hc : X.calm = true) (hN : X.N.Nodup) (hi : X.N[i]? = some x) (hj : X.N[j]? = some y) (hij : i ≠ j)
    (hx : X.env.scope.names.lookup x = some .local) (hy : X.env.scope.names.lookup y = some .local) (ha : DA X [a, b] fs)
    (hw : swappedStores [.Tuple [.Name x px, .Name y py] kt pt] (.Tuple [a, b] k2 pt2) X.env = pure (some [x, y]) := by rfl)
    (hs : swapsWithSole [.Tuple [.Name x px, .Name y py] kt pt] (.Tuple [a, b] k2 pt2) pos.line X.env = pure false := by rfl) :
    DS X (.Assign [.Tuple [.Name x px, .Name y py] kt pt] (.Tuple [a, b] k2 pt2) pos) (sPar i j fs) := (ps_par hc hN hi hj hij hx hy ha hw hs).imp fun σ H Q ⟨S, W, H0, δ, st, o, st', rs, so, e, q⟩ => by
  obtain ⟨ds, s1, ea, e⟩ := bd_inv e
  match ds, e with
  | [d, e0], e =>
    by_cases hl : lfs [d, e0] = true
    · have e : (if lfs [d, e0] = true then M.ret (.nx ((δ.set i (.rd d)).set j (.rd e0))) else M.no) s1 = some (o, st') := e
      rw [if_pos hl] at e
      obtain ⟨e1, e2⟩ := ret_inv e
      subst e1 e2
      refine ⟨S, δ, st, _, _, rs.rs, so, ea, fun vs H1 L x1 so1 r => ?_⟩
      have hL := r.nils hl
      subst hL
      obtain ⟨v, w, rfl⟩ : ∃ v w, vs = [v, w] := by
        obtain ⟨v, w, _, _, z, _⟩ := r.i2
        exact ⟨v, w, z⟩
      obtain ⟨r1, r2⟩ := r.nilc rfl
      exact ⟨v, w, rfl, q _ H1 (((rs.ext x1).put_lf r1).put_lf (r2.nilc rfl).1) so1⟩
    · have e : (if lfs [d, e0] = true then M.ret (.nx ((δ.set i (.rd d)).set j (.rd e0))) else M.no) s1 = some (o, st') := e
      rw [if_neg hl] at e; cases e
def sPar3 (i j l : Nat) (fs : Ev → M (List D)) : FS := fun δ => (fs δ).bd fun ds => match ds with | [d, e, f] => if lfs [d, e, f] = true then M.ret (.nx (((δ.set i (.rd d)).set j (.rd e)).set l (.rd f))) else M.no | _ => M.no
theorem ds_par3 {i j l : Nat} {x y z : Str} {a b c : Expr} {fs : Ev → M (List D)} {px py pz pt : Pos} {kt k2 pt2} (hc : X.calm = true) (hN : X.N.Nodup) (hi : X.N[i]? = some x) (hj : X.N[j]? = some y) (hl : X.N[l]? = some z) (hij : i ≠ j) (hil : i ≠ l) (hjl : j ≠ l)
    (hx : X.env.scope.names.lookup x = some .local) (hy : X.env.scope.names.lookup y = some .local) (hz : X.env.scope.names.lookup z = some .local) (ha : DA X [a, b, c] fs)
    (hw : swappedStores [.Tuple [.Name x px, .Name y py, .Name z pz] kt pt] (.Tuple [a, b, c] k2 pt2) X.env = pure (some [x, y, z]) := by rfl)
    (hs : swapsWithSole [.Tuple [.Name x px, .Name y py, .Name z pz] kt pt] (.Tuple [a, b, c] k2 pt2) pos.line X.env = pure false := by rfl) :
    DS X (.Assign [.Tuple [.Name x px, .Name y py, .Name z pz] kt pt] (.Tuple [a, b, c] k2 pt2) pos) (sPar3 i j l fs) := (ps_par3 hc hN hi hj hl hij hil hjl hx hy hz ha hw hs).imp fun σ H Q ⟨S, W, H0, δ, st, o, st', rs, so, e, q⟩ => by
  obtain ⟨ds, s1, ea, e⟩ := bd_inv e
  match ds, e with
  | [d, e0, f0], e =>
    have e : (if lfs [d, e0, f0] = true then M.ret (.nx (((δ.set i (.rd d)).set j (.rd e0)).set l (.rd f0))) else M.no) s1 = some (o, st') := e
    by_cases hl : lfs [d, e0, f0] = true
    · rw [if_pos hl] at e
      obtain ⟨e1, e2⟩ := ret_inv e
      subst e1 e2
      refine ⟨S, δ, st, _, _, rs.rs, so, ea, fun vs H1 L x1 so1 r => ?_⟩
      have hL := r.nils hl
      subst hL
      obtain ⟨v, w, u, rfl⟩ : ∃ v w u, vs = [v, w, u] := by
        obtain ⟨v, w, u, _, _, _, z, _⟩ := r.i3
        exact ⟨v, w, u, z⟩
      obtain ⟨r1, r2⟩ := r.nilc rfl
      obtain ⟨r2, r3⟩ := r2.nilc rfl
      exact ⟨v, w, u, rfl, q _ H1 ((((rs.ext x1).put_lf r1).put_lf r2).put_lf (r3.nilc rfl).1) so1⟩
    · rw [if_neg hl] at e; cases e
/-- x op= e -/
def sAug (i : Nat) (o : D → D → Option D) (f : FE) : FS := fun δ => (M.of (gt δ i)).bd fun x => (f δ).bd fun y => (M.of (o x y)).bd fun z => if z.lf = true then M.ret (.nx (δ.set i (.rd z))) else M.no
theorem o_iadd : OpR X (inplaceOp .Add) (rD2 fun a b => match a, b with | .int i, .int j => some (.int (i + j)) | _, _ => none) := o_ints (gD := fun i j => .int (i + j)) iop_add (fun a b d e => by cases a <;> cases b <;> cases e; exact ⟨_, _, rfl, rfl, rfl⟩) fun _ _ _ _ => .int _
theorem o_isub : OpR X (inplaceOp .Sub) (rD2 dSub) := o_ints (gD := fun i j => .int (i - j)) iop_sub (fun a b d e => by cases a <;> cases b <;> cases e; exact ⟨_, _, rfl, rfl, rfl⟩) fun _ _ _ _ => .int _
theorem ds_aug {i : Nat} {x : Str} {e : Expr} {f : FE} {op : Operator} {o : D → D → Option D} {pos' : Pos} (hN : X.N.Nodup) (hi : X.N[i]? = some x) (hx : Loc X.env.scope x) (he : DE X e f) (ho : OpR X (inplaceOp op) (rD2 o)) (hf : X.fn x = true ∨ X.env.scope.names.lookup x = some .local := by first | exact .inl rfl | exact .inr rfl | assumption) :
    DS X (.AugAssign (.Name x pos') op e pos) (sAug i o f) := (ps_aug (ti := rD2 o) hN hi hx he (fun pins s σ H x y v u Q I r1 r2 h => ho pins s σ H x y v u Q I r1 r2 h) hf).imp fun σ H Q ⟨S, W, H0, δ, st, o', st', rs, so, e, q⟩ => by
  obtain ⟨x, s0, e0, e3⟩ := bd_inv e
  obtain ⟨g0, g1⟩ := of_inv e0
  clear e0 e
  subst g1
  obtain ⟨y, s1, ea, e4⟩ := bd_inv e3
  clear e3
  obtain ⟨z, s2, eb, e⟩ := bd_inv e4
  obtain ⟨h0, h1⟩ := of_inv eb
  clear eb e4
  subst h1
  by_cases hl : z.lf = true
  · rw [if_pos hl] at e
    obtain ⟨e1, e2⟩ := ret_inv e
    clear e
    subst e1 e2
    obtain ⟨v, L, hv, rv⟩ := rs.rs.at_ i x g0
    refine ⟨v, hv, S, δ, _, y, _, rs.rs, so, ea, fun w H1 L1 x1 so1 r1 => ⟨S, x, y, z, L, L1, so1.tr, rv.extS x1, r1, h0, fun u H2 L2' x2 r2 => q _ H2 ?_ (so1.ext0 x2)⟩⟩
    have hL := r2.nil hl
    subst hL
    exact (rs.ext (x1.trans x2.up0)).put_lf r2
  · rw [if_neg hl] at e; cases e

/-! ### stores into lists -/
/-- x.append(e) -/
def sApp (i : Nat) (f : FE) : FS := fun δ => match δ[i]? with
  | some (.ow (.lst ds)) => (f δ).bd fun d => if d.lf = true ∧ ds.length < 1000000 then M.ret (.nx (δ.set i (.ow (.lst (ds ++ [d]))))) else M.no
  | _ => M.no
theorem ds_app {i : Nat} {x : Str} {e : Expr} {f : FE} {apos cpos p : Pos} (hi : X.N[i]? = some x) (hv : Vis X.env.scope x) (he : DE X e f)
    (hs : swapsWith (.Call (.Attribute (.Name x p) "append" apos) [e] [] cpos) none pos.line X.env = pure false := by rfl)
    (hbase : attributeBase (.Name x p) "append" X.env (eval (.Name x p) X.env) = eval (.Name x p) X.env := by rfl)
    (hfew : ((backTo cpos (starEach [e] X.env)).all (fun x => !x.1) && (backToKw cpos (keywordEach [] X.env)).all (fun x => x.1.isSome) && decide (([e] : List Expr).length + ([] : List Keyword).length + (if ([] : List Keyword).isEmpty then 0 else 1) < 30)) = true := by rfl)
    (hline : (apos.endLine == cpos.line) = true := by rfl) (hst : starEach [e] X.env = (false, eval e X.env) :: starEach [] X.env := by rfl) (hplain : (backTo cpos (starEach [] X.env)).any (·.1) = false := by rfl)
    (hd : (x == ("__debug__" : Str)) = false := by decide) (hcd : (x == ("__classdict__" : Str)) = false := by decide) :
    DS X (.Expr (.Call (.Attribute (.Name x p) "append" apos) [e] [] cpos) pos) (sApp i f) :=
  (ps_expr (pe_bm PySem.F.plainAttrs_list PySem.F.slot_list_append PySem.F.type_list_append mt_append (pe_var hi hv hd hcd) (pa_cons he pa_nil hst) hbase hfew hline hst hplain) hs).imp fun σ H Q ⟨S, W, H0, δ, st, o, st', rs, so, e, q⟩ => by
  unfold sApp at e
  cases ei : δ[i]? with
  | none => rw [ei] at e; cases e
  | some sl =>
    rw [ei] at e
    cases sl with
    | ow d =>
      cases d with
      | lst ds =>
        obtain ⟨d, s1, ea, e⟩ := bd_inv (show ((f δ).bd fun d => if d.lf = true ∧ ds.length < 1000000 then M.ret (.nx (δ.set i (.ow (.lst (ds ++ [d]))))) else M.no) st = some (o, st') from e)
        by_cases hl : d.lf = true ∧ ds.length < 1000000
        · rw [if_pos hl] at e
          obtain ⟨e1, e2⟩ := ret_inv e
          subst e1 e2
          obtain ⟨a, vs, L, hσ, hH, nh, rr, nd⟩ := rs.own ei
          refine ⟨.ref a, hσ, .inl ⟨rfl, _, SqL.of hH⟩, S, δ, st, d, _, rs.rs, so, ea, fun v H1 L1 x1 so1 r1 => ?_⟩
          have hL := r1.nil hl.1
          subst hL
          have hH1 : H1 a = some (.lst vs) := x1.lst _ _ (fun z => nh (z ▸ S.hA)) hH
          refine ⟨a, vs, v, rfl, rfl, hH1, Nat.lt_of_lt_of_le (by rw [rr.len]; exact hl.2) (size_ok (Nat.le_refl _)), ?_⟩
          have rr1 := rr.extS x1
          have nd' := List.nodup_cons.mp nd
          have rr2 := rr1.append (Rps.one r1)
          rw [List.append_nil] at rr2
          exact q σ _ ((rs.ext x1).wr (L' := L) ei hσ hH1 rr1 (rr2.ext (HE.writeN hH1) fun b hb z => nd'.1 (z ▸ hb)) nd'.2 (fun b hb => hb) nd'.1) (so1.wr nh)
        · rw [if_neg hl] at e; cases e
      | _ => cases e
    | _ => cases e
/-- x[k] = e, x a list of things without lists -/
def sSub (i : Nat) (fk f : FE) : FS := fun δ => (f δ).bd fun d => (fk δ).bd fun k => match δ[i]?, k with
  | some (.ow (.lst ds)), .int n => if d.lf = true ∧ lfs ds = true then (M.of ((ixN ds.length n).map fun j => Out.nx (δ.set i (.ow (.lst (ds.set j d)))))) else M.no
  | _, _ => M.no
theorem lfs_set {d : D} (hd : d.lf = true) : ∀ {ds : List D} (j : Nat), lfs ds = true → lfs (ds.set j d) = true
  | [], _, h => h
  | x :: xs, 0, h => by simp only [lfs, List.set_cons_zero, Bool.and_eq_true] at *; exact ⟨hd, h.2⟩
  | x :: xs, j + 1, h => by simp only [lfs, List.set_cons_succ, Bool.and_eq_true] at *; exact ⟨h.1, lfs_set hd j h.2⟩
theorem Rps.set {S : Sr} {H : Hp} {v : V} {d : D} (r : Rp S H v d []) : ∀ {vs : List V} {ds : List D} (j : Nat), Rps S H vs ds [] → Rps S H (vs.set j v) (ds.set j d) []
  | [], _, _, h => by cases h; exact .nil
  | x :: xs, [], _, h => by cases h
  | x :: xs, e :: es, 0, h => by
    obtain ⟨h1, h2⟩ := h.nilc rfl
    exact .cons r h2
  | x :: xs, e :: es, j + 1, h => by
    obtain ⟨h1, h2⟩ := h.nilc rfl
    exact .cons h1 (Rps.set r j h2)
theorem ds_sub {i : Nat} {x : Str} {k e : Expr} {fk f : FE} {p spos : Pos} (hi : X.N[i]? = some x) (hv : Vis X.env.scope x) (hk : DE X k fk) (he : DE X e f)
    (ha : ∀ v, assign (.Subscript (.Name x p) k spos) X.env v = (do
      let ov ← holding [v] (eval (.Name x p) X.env)
      let iv ← holding [v, ov] (eval k X.env)
      standAt spos
      holding [v, ov, iv] (setItem ov iv v)
      release [v, ov, iv] []) := by intro _; rfl)
    (hs : swapsWithSole [.Subscript (.Name x p) k spos] e pos.line X.env = pure false := by rfl) (hw : swappedStores [.Subscript (.Name x p) k spos] e X.env = pure none := by rfl)
    (h1 : (assignEach [.Subscript (.Name x p) k spos] X.env).map (·.2) = [assign (.Subscript (.Name x p) k spos) X.env] := by rfl)
    (hd : (x == ("__debug__" : Str)) = false := by decide) (hcd : (x == ("__classdict__" : Str)) = false := by decide) : DS X (.Assign [.Subscript (.Name x p) k spos] e pos) (sSub i fk f) :=
  (ps_asg he (pg_sub (pe_var hi hv hd hcd) hk set_list ha) hs hw h1).imp fun σ H Q ⟨S, W, H0, δ, st, o, st', rs, so, e, q⟩ => by
  obtain ⟨d, s1, ea, e⟩ := bd_inv e
  obtain ⟨kd, s2, eb, e⟩ := bd_inv e
  cases ei : δ[i]? with
  | none => rw [ei] at e; cases e
  | some sl =>
    rw [ei] at e
    cases sl with
    | ow d0 =>
      cases d0 with
      | lst ds =>
        cases kd with
        | int n =>
          have e : (if d.lf = true ∧ lfs ds = true then (M.of ((ixN ds.length n).map fun j => Out.nx (δ.set i (.ow (.lst (ds.set j d)))))) else M.no) s2 = some (o, st') := e
          by_cases hl : d.lf = true ∧ lfs ds = true
          · rw [if_pos hl] at e
            obtain ⟨e1, e2⟩ := of_inv e
            clear e
            subst e2
            obtain ⟨j, e3, e4⟩ := Option.map_eq_some_iff.mp e1
            subst e4
            refine ⟨S, δ, st, d, s1, rs.rs, so, ea, fun v H1 L1 x1 so1 r1 => ?_⟩
            have hL := r1.nil hl.1
            subst hL
            obtain ⟨a, vs, L, hσ, hH, nh, rr, nd⟩ := (rs.ext x1).own ei
            refine ⟨.ref a, hσ, S, δ, s1, _, _, (rs.ext x1).rs, so1, eb, fun w H2 L2' x2 so2 r2 => ?_⟩
            obtain ⟨rfl, rfl⟩ := r2.iint
            have hH2 : H2 a = some (.lst vs) := x2.lst _ _ (fun z => nh (z ▸ S.hA)) hH
            have rr2 := rr.extS x2
            have hLn := rr2.nils hl.2
            subst hLn
            refine ⟨a, vs, n, j, rfl, rfl, hH2, by rw [rr.len]; exact e3, ?_⟩
            exact q σ _ ((rs.ext (x1.trans x2)).wr (L' := []) ei hσ hH2 rr2 ((Rps.set (r1.extS x2) j rr2).ext (HE.writeN hH2) fun _ z => nomatch z) List.nodup_nil (fun _ z => nomatch z) (fun z => nomatch z)) (so2.wr nh)
          · rw [if_neg hl] at e; cases e
        | _ => cases e
      | _ => cases e
    | _ => cases e
end

/-! ### loops -/
def fLp (tg : D → Ev → Option Ev) (body : FS) : List D → Ev → M Out
  | [], δ => M.ret (.nx δ)
  | x :: xs, δ => (M.of (if x.lf = true then tg x δ else none)).bd fun δ1 => (body δ1).bd fun o => match o with
    | .nx δ2 => fLp tg body xs δ2
    | .ct δ2 => fLp tg body xs δ2
    | .bk δ2 => M.ret (.nx δ2)
    | .rt d => M.ret (.rt d)
def sFor (h : FI) (tg : D → Ev → Option Ev) (body : FS) : FS := fun δ => (h δ).bd fun ds => fLp tg body ds δ
def sForN (h : FI) (tg : D → Ev → Option Ev) (body : FS) : FS := fun δ => (h δ).bd fun ds => if noOw δ = true then fLp tg body ds δ else M.no
theorem RS.enter {S : Sr} {W : Addr → Prop} {H0 H H1 : Hp} {σ : L2.St} {δ : Ev} {La : List Addr} (r : RS S W H0 H σ δ) (x : Ext S H H1) (la : ∀ a ∈ La, ¬ S.hid a ∧ ∃ xs, H1 a = some (.lst xs))
    (ap : ∀ (i : Nat) (d : D), δ[i]? = some (Sl.ow d) → ∀ v L, σ[i]? = some (some v) → Rp S H v d L → ∀ a ∈ L, a ∉ La) : RS S (fun b => W b ∧ b ∉ La) H1 H1 σ δ where
  len := r.len
  he := HE.refl
  wA := ⟨r.wA, fun z => (la _ z).1 S.hA⟩
  wn := fun b e => ⟨r.wn b (r.he.new b (x.new b e)), fun z => by
    obtain ⟨_, xs, q⟩ := la b z
    rw [e] at q; cases q⟩
  sl := by
    obtain ⟨Λ, h, h2⟩ := r.sl
    refine ⟨Λ, fun i d e => ?_, fun i d e => ?_⟩
    · obtain ⟨v, a, b⟩ := h i d e
      exact ⟨v, a, b.extS x⟩
    · obtain ⟨v, a, b⟩ := h i d (gt_ow e)
      obtain ⟨n, w⟩ := h2 i d e
      exact ⟨n, fun c hc => ⟨⟨(w c hc).1, ap i d e v _ a b c hc⟩, (w c hc).2⟩⟩
theorem RS.leave {S : Sr} {W W2 : Addr → Prop} {H0 H1 H : Hp} {σ : L2.St} {δ : Ev} (r : RS S W2 H1 H σ δ) (he : HE W H0 H1) (sub : ∀ b, W2 b → W b) (wA : W S.dA) (wn : ∀ b, H0 b = none → W b) : RS S W H0 H σ δ where
  len := r.len
  he := he.trans (r.he.mono sub)
  wA := wA
  wn := wn
  sl := by
    obtain ⟨Λ, h, h2⟩ := r.sl
    exact ⟨Λ, h, fun i d e => ⟨(h2 i d e).1, fun a ha => ⟨sub a ((h2 i d e).2 a ha).1, ((h2 i d e).2 a ha).2⟩⟩⟩
theorem for_core {h : FI} {tg : D → Ev → Option Ev} {body : FS} {S : Sr} {W : Addr → Prop} {H0 H H1 : Hp} {σ : L2.St} {δ : Ev} {Q : Ends} {s1 st' : Src} {o : Out} {ds : List D} {J : It} {La : List Addr} (rs : RS S W H0 H σ δ) (x1 : Ext S H H1) (so1 : SrcOk S H1 s1) (wk : Wk S J H1 ds La)
    (ap : ∀ (i : Nat) (d : D), δ[i]? = some (Sl.ow d) → ∀ v L, σ[i]? = some (some v) → Rp S H v d L → ∀ a ∈ L, a ∉ La) (e : fLp tg body ds δ s1 = some (o, st')) (q : Post S W H0 st' Q o) :
    ∃ W : Nat → Nat → L2.St → Hp → Prop, (∃ m, W 0 m σ H1) ∧ ∀ i m σ H, W i m σ H →
      (J.stop i H ∧ Q.nx σ H) ∨ (J.go i H ∧ ∃ N : L2.St → Hp → Prop, (∀ σ' H', N σ' H' → ∃ m', m' < m ∧ W (i + 1) m' σ' H') ∧ ∀ x H', J.yld i H x H' → tGSt tg x σ H' fun σ2 H2 => tS body { Q with nx := N, ct := N, bk := Q.nx } σ2 H2) := by
  have he1 : HE W H0 H1 := rs.he.trans (x1.mono fun b e => e ▸ rs.wA)
  have out : ∀ {σ' : L2.St} {H' : Hp} {δ' : Ev}, RS S (fun b => W b ∧ b ∉ La) H1 H' σ' δ' → RS S W H0 H' σ' δ' := fun r => r.leave he1 (fun _ z => z.1) rs.wA rs.wn
  refine ⟨fun i m σ H => m = ds.length - i ∧ i ≤ ds.length ∧ ∃ δi sti, RS S (fun b => W b ∧ b ∉ La) H1 H σ δi ∧ SrcOk S H sti ∧ fLp tg body (ds.drop i) δi sti = some (o, st'), ⟨ds.length, rfl, Nat.zero_le _, δ, s1, rs.enter x1 wk.la ap, so1, e⟩, ?_⟩
  rintro i m σ2 H2 ⟨rfl, hi, δi, sti, rs2, so2, e2⟩
  have x2' : HE (fun b => b ∉ La) H1 H2 := rs2.he.mono fun b z => z.2
  by_cases hlt : i < ds.length
  · refine .inr ⟨wk.go i H2 x2' hlt, fun σ H => (fun i m σ H => m = ds.length - i ∧ i ≤ ds.length ∧ ∃ δi sti, RS S (fun b => W b ∧ b ∉ La) H1 H σ δi ∧ SrcOk S H sti ∧ fLp tg body (ds.drop i) δi sti = some (o, st')) (i + 1) (ds.length - (i + 1)) σ H, fun σ' H' hN => ⟨ds.length - (i + 1), by omega, hN⟩, fun x H3 y => ?_⟩
    obtain ⟨d, Ld, hd, x3, rd, hLd⟩ := wk.yld i H2 x H3 x2' so2.tr hlt y
    have hdrop : ds.drop i = d :: ds.drop (i + 1) := by
      have e1 := List.drop_eq_getElem_cons hlt
      have e3 : ds[i] = d := by
        have z := List.getElem?_eq_getElem hlt
        rw [z] at hd
        exact Option.some.inj hd
      rw [e1, e3]
    rw [hdrop, fLp] at e2
    obtain ⟨δ1, t1, eg0, ec3⟩ := bd_inv e2
    obtain ⟨eg, et⟩ := of_inv eg0
    clear eg0 e2
    subst et
    obtain ⟨o1, t2, eb, ec2⟩ := bd_inv ec3
    clear ec3
    by_cases hl : d.lf = true
    rotate_left
    · rw [if_neg hl] at eg; cases eg
    rw [if_pos hl] at eg
    have hL := rd.nil hl
    subst hL
    refine ⟨S, _, H1, δi, d, δ1, rs2.ext x3.up0, rd, eg, fun σ3 rs3 => ⟨S, _, H1, δ1, _, o1, t2, rs3, so2.ext0 x3, eb, ?_⟩⟩
    cases o1 with
    | nx δ2 => exact fun σ' H' r' s' => ⟨rfl, hlt, δ2, t2, r', s', ec2⟩
    | ct δ2 => exact fun σ' H' r' s' => ⟨rfl, hlt, δ2, t2, r', s', ec2⟩
    | bk δ2 =>
      obtain ⟨e3, e4⟩ := ret_inv ec2
      subst e3 e4
      exact fun σ' H' r' s' => q σ' H' (out r') s'
    | rt d2 =>
      obtain ⟨e3, e4⟩ := ret_inv ec2
      subst e3 e4
      exact fun v H' L x' s' r' => q v H' L (he1.trans (x'.mono fun _ z => z.1)) s' r'
  · have ei : ds.drop i = [] := List.drop_eq_nil_of_le (by omega)
    rw [ei, fLp] at e2
    obtain ⟨e3, e4⟩ := ret_inv e2
    subst e3 e4
    exact .inl ⟨wk.stop i H2 x2' (by omega), q σ2 H2 (out rs2) so2⟩
section
variable {X : Cx} {pos : Pos}
theorem ds_for {tg iter : Expr} {bd : List Stmt} {h : FI} {g : D → Ev → Option Ev} {body : FS} (hp : PassesOwn (model X.prog X.w) X.A X.env X.xe) (hc : X.calm = true) (hi : DIF X tg iter h) (hg : SG X tg g) (hb : DSs X bd body)
    (hs : ∀ x, foldedSetIterable iter X.env x = pure x := by intro _; rfl) : DS X (.For tg iter bd [] pos) (sFor h g body) := (ps_for hp hc hi hg hb hs).imp fun σ H Q ⟨S, W, H0, δ, st, o, st', rs, so, e, q⟩ => by
  obtain ⟨ds, s1, eh, e⟩ := bd_inv e
  refine ⟨S, δ, st, ds, s1, rs.rs, so, eh, fun J H1 La x1 so1 wk fr => for_core (h := h) rs x1 so1 wk (fun i d ei v L hv r a ha hL => ?_) e q⟩
  obtain ⟨_, xs, w⟩ := r.ne a ha
  rw [fr a hL] at w
  cases w
theorem ds_forN {tg iter : Expr} {bd : List Stmt} {h : FI} {g : D → Ev → Option Ev} {body : FS} (hp : PassesOwn (model X.prog X.w) X.A X.env X.xe) (hc : X.calm = true) (hi : DI X tg iter h) (hg : SG X tg g) (hb : DSs X bd body)
    (hs : ∀ x, foldedSetIterable iter X.env x = pure x := by intro _; rfl) : DS X (.For tg iter bd [] pos) (sForN h g body) := (ps_for hp hc hi hg hb hs).imp fun σ H Q ⟨S, W, H0, δ, st, o, st', rs, so, e, q⟩ => by
  obtain ⟨ds, s1, eh, e⟩ := bd_inv e
  by_cases hn : noOw δ = true
  · rw [if_pos hn] at e
    refine ⟨S, δ, st, ds, s1, rs.rs, so, eh, fun J H1 La x1 so1 wk => for_core (h := h) rs x1 so1 wk (fun i d ei v L hv r a ha hL => ?_) e q⟩
    exact absurd (List.all_eq_true.mp hn _ (List.mem_of_getElem? ei)) Bool.false_ne_true
  · rw [if_neg hn] at e; cases e
def wLp (c : Ev → M Bool) (body : FS) : Nat → Ev → M Out
  | 0, _ => M.no
  | n + 1, δ => (c δ).bd fun k => if k = true then (body δ).bd fun o => match o with
    | .nx δ2 => wLp c body n δ2
    | .ct δ2 => wLp c body n δ2
    | .bk δ2 => M.ret (.nx δ2)
    | .rt d => M.ret (.rt d)
    else M.ret (.nx δ)
theorem ds_while {c : Expr} {bd : List Stmt} {t : Ev → M Bool} {body : FS} (n : Nat) (hp : PassesOwn (model X.prog X.w) X.A X.env X.xe) (hc : DT X c t) (hb : DSs X bd body) : DS X (.While c bd [] pos) (wLp t body n) := (ps_while hp hc hb).imp fun σ H Q ⟨S, W, H0, δ, st, o, st', rs, so, e, q⟩ => by
  refine ⟨fun m σ H => ∃ δi sti, RS S W H0 H σ δi ∧ SrcOk S H sti ∧ wLp t body m δi sti = some (o, st'), ⟨n, δ, st, rs, so, e⟩, ?_⟩
  rintro m σ2 H2 ⟨δi, sti, rs2, so2, e2⟩
  cases m with
  | zero => cases e2
  | succ m =>
    rw [wLp] at e2
    obtain ⟨k, t1, ek, e3⟩ := bd_inv e2
    clear e2
    refine ⟨S, δi, sti, k, t1, rs2.rs, so2, ek, fun H3 x3 so3 => ?_⟩
    cases k with
    | false =>
      rw [if_neg Bool.false_ne_true] at e3
      obtain ⟨e4, e5⟩ := ret_inv e3
      subst e4 e5
      exact iteF (q σ2 H3 (rs2.ext x3) so3)
    | true =>
      rw [if_pos rfl] at e3
      obtain ⟨o1, t2, eb, e4⟩ := bd_inv e3
      clear e3
      refine iteT ⟨fun σ' H' => ∃ δi sti, RS S W H0 H' σ' δi ∧ SrcOk S H' sti ∧ wLp t body m δi sti = some (o, st'), fun σ' H' z => ⟨m, Nat.lt_succ_self m, z⟩, S, W, H0, δi, t1, o1, t2, rs2.ext x3, so3, eb, ?_⟩
      cases o1 with
      | nx δ2 => exact fun σ' H' r' s' => ⟨δ2, t2, r', s', e4⟩
      | ct δ2 => exact fun σ' H' r' s' => ⟨δ2, t2, r', s', e4⟩
      | bk δ2 =>
        obtain ⟨e5, e6⟩ := ret_inv e4
        subst e5 e6
        exact q
      | rt d2 =>
        obtain ⟨e5, e6⟩ := ret_inv e4
        subst e5 e6
        exact q
end

/-! ### defs -/
/-- a def's promise: over data, the function F -/
def spD (n : Nat) (F : List D → M D) : Sp := fun vs H Q _ => ∃ S ds L st d st', Rps S H vs ds L ∧ ds.length = n ∧ SrcOk S H st ∧ F ds st = some (d, st') ∧ ∀ v H' L', Ext S H H' → SrcOk S H' st' → Rp S H' v d L' → Q v H'
/-- the slots at the entry -/
def ent (n : Nat) (ds : List D) : Ev := ds.map .rd ++ List.replicate (n - ds.length) .no
/-- what a def's body makes of its arguments: n slots -/
def run (n : Nat) (g : FS) : List D → M D := fun ds => (g (ent n ds)).bd fun o => match o with
  | .rt d => M.ret d
  | .nx _ => M.ret .non
  | _ => M.no
theorem gt_ent {n : Nat} {ds : List D} {i : Nat} {d : D} (h : gt (ent n ds) i = some d) : ds[i]? = some d := by
  unfold gt ent at h
  by_cases hi : i < ds.length
  · rw [List.getElem?_append_left (by simpa using hi), List.getElem?_map] at h
    rw [List.getElem?_eq_getElem hi] at h ⊢
    exact h
  · rw [List.getElem?_append_right (by simpa using hi), List.getElem?_replicate] at h
    split at h <;> cases h
theorem ent_now {n : Nat} {ds : List D} {i : Nat} {d : D} (h : (ent n ds)[i]? = some (.ow d)) : False := by
  unfold ent at h
  by_cases hi : i < ds.length
  · rw [List.getElem?_append_left (by simpa using hi), List.getElem?_map, List.getElem?_eq_getElem hi] at h
    cases h
  · rw [List.getElem?_append_right (by simpa using hi), List.getElem?_replicate] at h
    split at h <;> cases h
section
variable {P : Program} {w : World} {K : PySem.W.Frag} {mg : Str → Option Value} {base : Heap}
theorem fn_ok {x qual : Str} {st : Stmt} {f : Addr} {fd : FuncData} {N ps : List Str} {k : Nat} {g : FS} (F : Fun K x qual st f fd) (Sc : FnScope N ps (defScope st)) (hps : ps.length ≤ N.length)
    (hbody : ∀ (cdv : Value) (A : Around) (outer : List Env) (s : Shared) (H : Hp) (E : XK), Room k (A.deeper (envOfC qual (defScope st) s.heap.objs.size f cdv)) → DSs (cxOf CX0 P w K mg base N qual (defScope st) f cdv A outer s H E).nox (defBody st) g) :
    FnOk P w K mg base CX0 (k + 1) f fd ps (spD ps.length (run N.length g)) := by
  refine F.ok Sc (fun vs H Q E ⟨S, ds, L, st, d, st', r, hl, _⟩ => r.len.trans hl) fun cdv A outer s H vs Q E hr ⟨S, ds, L, st, d, st', r, hl, so, e, q⟩ => ⟨tS g, hbody cdv A outer s H E hr, ?_⟩
  obtain ⟨o, s1, e1, e2⟩ := bd_inv e
  have hlv := r.len
  have rs : RS S (fun b => H b = none ∨ b = S.dA) H H (L2.start N vs) (ent N.length ds) := by
    refine ⟨?_, HE.refl, .inr rfl, fun b h => .inl h, ?_⟩
    · unfold L2.start ent
      rw [List.length_append, List.length_append, List.length_map, List.length_map, List.length_replicate, List.length_replicate, hlv]
    · have get : ∀ i d, gt (ent N.length ds) i = some d → ∃ v L, (L2.start N vs)[i]? = some (some v) ∧ Rp S H v d L := fun i d h => by
        obtain ⟨v, L', a, b, _⟩ := r.get (gt_ent h)
        refine ⟨v, L', ?_, b⟩
        unfold L2.start
        have hi : i < vs.length := (List.getElem?_eq_some_iff.mp a).1
        rw [List.getElem?_append_left (by simpa using hi), List.getElem?_map, a]
        rfl
      have ch : ∀ i : Nat, ∃ L : List Addr, ∀ d, gt (ent N.length ds) i = some d → ∃ v, (L2.start N vs)[i]? = some (some v) ∧ Rp S H v d L := fun i => by
        cases h : gt (ent N.length ds) i with
        | none => exact ⟨[], fun d z => nomatch z⟩
        | some d =>
          obtain ⟨v, L', a, b⟩ := get i d h
          exact ⟨L', fun d' z => by cases z; exact ⟨v, a, b⟩⟩
      obtain ⟨Λ, hΛ⟩ := Classical.axiomOfChoice ch
      exact ⟨Λ, fun i d h => hΛ i d h, fun i d h => (ent_now h).elim⟩
  refine ⟨S, _, H, ent N.length ds, st, o, s1, rs, so, e1, ?_⟩
  have wx : ∀ {H' : Hp}, HE (fun b => H b = none ∨ b = S.dA) H H' → Ext S H H' := fun {H'} x => ⟨x.tup, fun b xs n e => x.lst b xs (fun z => z.elim (fun z => by rw [z] at e; cases e) n) e, x.new, x.dk, x.fz⟩
  cases o with
  | nx δ =>
    obtain ⟨e3, e4⟩ := ret_inv e2
    subst e3 e4
    exact fun σ' H' r' s' => q .non H' [] (wx r'.he) s' .non
  | rt d2 =>
    obtain ⟨e3, e4⟩ := ret_inv e2
    subst e3 e4
    exact fun v H' L' x' s' r' => q v H' L' (wx x') s' r'
  | bk => cases e2
  | ct => cases e2
end
/-- f(..), an own def -/
def eFn (F : List D → M D) (fs : Ev → M (List D)) : FE := fun δ => (fs δ).bd F
section
variable {X : Cx} {CX : CXT} {k n : Nat} {f : Addr} {fd : FuncData} {ps : List Str} {F : List D → M D} {E : XK} {x : Str} {p pos : Pos} {e : Expr} {es : List Expr} {fs : Ev → M (List D)}
theorem d_fn (G : FnOk X.prog X.w X.K X.mg X.base CX k f fd ps (spD n F)) (hr : Room k X.A) (hg : Gl X x) (hm : X.mg x = some (.ref f)) (hk : PySem.W.keepIn X.K (.ref f) = true) (hb : Binds X.K fd ps []) (hx : Passes CX X E)
    (ha : DA X (e :: es) fs) (hn : (e :: es).length = n := by rfl) (hdb : (x == ("__debug__" : Str)) = false := by decide) (he : starEach (e :: es) X.env = (false, eval e X.env) :: starEach es X.env := by rfl) (hpl : (backTo pos (starEach es X.env)).any (·.1) = false := by rfl) :
    DE X (.Call (.Name x p) (e :: es) [] pos) (eFn (fun ds => if ds.length = n then F ds else M.no) fs) := (pe_call G hr hg hm hk hb .nil hx ha hdb he hpl).imp fun σ H Q ⟨S, δ, st, d, st', rs, so, e, q⟩ => by
  obtain ⟨ds, s1, ea, e⟩ := bd_inv e
  refine ⟨S, δ, st, ds, s1, rs, so, ea, fun vs H1 L1 x1 so1 r1 => ?_⟩
  by_cases hl : ds.length = n
  · rw [if_pos hl] at e
    exact ⟨S, ds, L1, s1, d, st', by rw [List.append_nil]; exact r1, hl, so1, e, fun v H' L' x' so' r' => q v H' L' (x1.trans x') so' r'⟩
  · rw [if_neg hl] at e; cases e
end
end DL
set_option Elab.async false
set_option linter.all false
set_option maxRecDepth 100000
set_option maxHeartbeats 4000000
/-! DL6: isinstance, chains, min of three, slices backwards, count, written dicts of texts. -/
namespace DL
open PySem PySem.Spec PyProof.Rows L2

/-! ### isinstance -/
def tyn : D → Option String
  | .non => some "NoneType"
  | .bl _ => some "bool"
  | .int _ => some "int"
  | .str _ => some "str"
  | .tup _ => some "tuple"
  | .lst _ => some "list"
  | .tupk _ => some "tuple"
  | _ => none
def isTy (n T : String) : Bool := n == T || (n == "bool" && T == "int")
def isiD (T : String) (d : D) : Option D := (tyn d).map fun n => .bl (isTy n T)
theorem Rp.ty {K : PySem.W.Frag} {S : Sr} {H : Hp} {v : V} {d : D} {L : List Addr} {n : String} (r : Rp S H v d L) (h : tyn d = some n) : TyX K H v (.type n) := by
  cases r with
  | non => cases h; exact .base .non
  | bl b => cases h; exact .base (.bl b)
  | int i => cases h; exact .base (.int i)
  | str x => cases h; exact .base (.str x)
  | tup e _ => cases h; exact .base (.tup e)
  | lst e _ _ => cases h; exact .base (.lst e)
  | src => cases h
  | dct => cases h
  | tupk e _ _ => cases h; exact .fTuple e
theorem kit_all {T : String} (h : (["NoneType", "bool", "int", "str", "tuple", "list"].all fun n => decide (kitB n T = some (isTy n T))) = true) {d : D} {n : String} (hn : tyn d = some n) : kitB n T = some (isTy n T) := by
  have hm : n ∈ ["NoneType", "bool", "int", "str", "tuple", "list"] := by
    cases d <;> cases hn <;> simp
  exact of_decide_eq_true (List.all_eq_true.mp h n hm)
section
variable {X : Cx} {e a b c : Expr} {es : List Expr} {f g h : FE} {fs : Ev → M (List D)} {pos : Pos}
theorem d_isi {T : Str} {n : String} {p p2 pos : Pos} (hg : Gl X "isinstance") (hm : X.mg "isinstance" = none) (hg2 : Gl X T) (hm2 : X.mg T = none) (hv2 : bootBuiltins T = some (.type n)) (he : DE X e f)
    (hk : (["NoneType", "bool", "int", "str", "tuple", "list"].all fun m => decide (kitB m n = some (isTy m n))) = true := by decide +kernel) (hn2 : T ≠ "__name__" := by decide) (hd2 : (T == ("__debug__" : Str)) = false := by decide)
    (hs : starEach [e, .Name T p2] X.env = (false, eval e X.env) :: starEach [.Name T p2] X.env := by rfl) (hs2 : starEach [.Name T p2] X.env = (false, eval (.Name T p2) X.env) :: starEach [] X.env := by rfl) (hpl : (backTo pos (starEach [.Name T p2] X.env)).any (·.1) = false := by rfl) :
    DE X (.Call (.Name "isinstance" p) [e, .Name T p2] [] pos) (e1 (isiD n) f) :=
  (pe_callB call_isi hg hm boot_isinstance (pa_cons he (pa_cons (pe_bltn hg2 hm2 hv2 (show RelV (.ty n) _ from rfl) hn2 hd2) pa_nil hs2) hs) (by decide) (by decide) hs hpl).imp fun σ H Q ⟨S, δ, st, d, st', rs, so, e, q⟩ => by
  obtain ⟨x, s1, ea, e3⟩ := bd_inv e
  obtain ⟨eo, es⟩ := of_inv e3
  clear e3
  subst es
  obtain ⟨m, e1, e2⟩ := Option.map_eq_some_iff.mp (show (tyn x).map (fun m => D.bl (isTy m n)) = some d from eo)
  subst e2
  exact ⟨S, δ, st, x, _, rs, so, ea, fun v H1 L x1 so1 r => ⟨v, .ty n, .type m, .type n, isTy m n, rfl, ClsV.ty n, r.ty e1, kit_ty (kit_all hk e1), q _ H1 [] x1 so1 (.bl _)⟩⟩

/-! ### chains of comparisons -/
def eCh (o o' : D → D → Option D) (f g h : FE) : FE := fun δ => (f δ).bd fun x => (g δ).bd fun y => (M.of (o x y)).bd fun z => match z with
  | .bl true => (h δ).bd fun u => M.of (o' y u)
  | .bl false => M.ret (.bl false)
  | _ => M.no
theorem tch_imp {o o' : D → D → Option D} : ∀ σ H Q, tD (eCh o o' f g h) σ H Q → tChain (rD2 o) (rD2 o') (tD f) (tD g) (tD h) σ H Q := fun σ H Q ⟨S, δ, st, d, st', rs, so, e, q⟩ => by
  obtain ⟨x, s1, ea, e2⟩ := bd_inv e
  obtain ⟨y, s2, eb, e3⟩ := bd_inv e2
  obtain ⟨z, s3, ec, e4⟩ := bd_inv e3
  obtain ⟨eo, es⟩ := of_inv ec
  clear ec e3 e2 e
  subst es
  refine ⟨S, δ, st, x, s1, rs, so, ea, fun v H1 L1 x1 so1 r1 => ⟨S, δ, s1, y, _, rs.extS x1, so1, eb, fun w H2 L2' x2 so2 r2 => ⟨S, x, y, z, L1, L2', so2.tr, r1.extS x2, r2, eo, fun zv H3 L3 x3 r3 => ?_⟩⟩⟩
  cases z with
  | bl k =>
    obtain ⟨rfl, rfl⟩ := r3.ibl
    refine ⟨k, rfl, ?_⟩
    cases k with
    | true =>
      obtain ⟨u, s4, eu, e5⟩ := bd_inv e4
      obtain ⟨eo2, es2⟩ := of_inv e5
      clear e5 e4
      subst es2
      refine iteT ⟨S, δ, _, u, _, rs.extS (x1.trans (x2.trans x3.up0)), so2.ext0 x3, eu, fun uv H4 L4 x4 so4 r4 => ⟨S, y, u, d, L2', L4, so4.tr, (r2.ext0 x3).extS x4, r4, eo2, fun dv H5 L5 x5 r5 => q dv H5 L5 (x1.trans (x2.trans ((x3.up0 : Ext S H2 H3).trans (x4.trans x5.up0)))) (so4.ext0 x5) r5⟩⟩
    | false =>
      obtain ⟨e5, e6⟩ := ret_inv e4
      subst e5 e6
      exact iteF (q _ H3 [] (x1.trans (x2.trans x3.up0)) (so2.ext0 x3) (.bl false))
  | _ => cases e4
theorem d_chain {op op' : CmpOp} {o o' : D → D → Option D} (ho : OpR X (compareOp op) (rD2 o)) (ho' : OpR X (compareOp op') (rD2 o')) (ha : DE X a f) (hb : DE X b g) (hc : DE X c h)
    (hm : lastMarks [op, op'] [b, c] = false := by with_unfolding_all rfl) : DE X (.Compare a [op, op'] [b, c] pos) (eCh o o' f g h) := (pe_chain ho ho' ha hb hc hm).imp tch_imp
theorem dt_chain {op op' : CmpOp} {o o' : D → D → Option D} (ho : OpR X (compareOp op) (rD2 o)) (ho' : OpR X (compareOp op') (rD2 o')) (ha : DE X a f) (hb : DE X b g) (hc : DE X c h)
    (hm : lastMarks [op, op'] [b, c] = false := by with_unfolding_all rfl) : DT X (.Compare a [op, op'] [b, c] pos) (bOf (eCh o o' f g h)) := (pt_chain ho ho' ha hb hc hm).imp fun σ H Q w => by
  obtain ⟨S, δ, st, d, st', rs, so, e, q⟩ := tB_of σ H Q w
  exact tch_imp σ H _ ⟨S, δ, st, d, st', rs, so, e, q⟩

/-! ### min of three -/
def bMin3 : List D → Option D
  | [.int a, .int b, .int c] => some (.int (if b < a then (if c < b then c else b) else (if c < a then c else a)))
  | _ => none
theorem b_min3 (hc : X.calm = true) : CallR X (.builtin "min") (rDs bMin3) := by
  intro pins s σ H xs us Q I r ⟨S, ds, d, La, hn, rs, e, q⟩
  match ds, e with
  | [.int i, .int j, .int k], e =>
    cases e
    obtain ⟨v, u, w, _, _, _, rfl, r1, r2, r3⟩ := rs.i3
    obtain ⟨rfl, rfl⟩ := r1.iint
    obtain ⟨rfl, rfl⟩ := r2.iint
    obtain ⟨rfl, rfl⟩ := r3.iint
    cases r with
    | cons p1 r =>
      obtain ⟨u2, u3, rfl, p2, p3⟩ := vals2 r
      obtain ⟨t1, rfl⟩ := p1
      obtain ⟨t2, rfl⟩ := p2
      obtain ⟨t3, rfl⟩ := p3
      refine min_three_ints (I.ok.hd hc) fun h' tk kk => ⟨_, H, I.kept kk, ?_, q _ _ _ HE.refl (.int _)⟩
      by_cases h1 : j < i
      · rw [if_pos h1, if_pos h1]
        by_cases h2 : k < j
        · rw [if_pos h2, if_pos h2]; exact ⟨_, rfl⟩
        · rw [if_neg h2, if_neg h2]; exact ⟨_, rfl⟩
      · rw [if_neg h1, if_neg h1]
        by_cases h2 : k < i
        · rw [if_pos h2, if_pos h2]; exact ⟨_, rfl⟩
        · rw [if_neg h2, if_neg h2]; exact ⟨_, rfl⟩

/-! ### xs[::-1], t[::-1] -/
theorem Rps.rev {S : Sr} {H : Hp} {vs : List V} {ds : List D} {L : List Addr} (r : Rps S H vs ds L) : ∃ L', Rps S H vs.reverse ds.reverse L' := by
  refine Rps.mk (by simp [r.len]) fun i d v h1 h2 => ?_
  have hi : i < ds.length := by simpa using (List.getElem?_eq_some_iff.mp h1).1
  rw [List.getElem?_reverse hi] at h1
  rw [List.getElem?_reverse (by rw [r.len]; exact hi), r.len] at h2
  obtain ⟨w, L', e1, e2, _⟩ := r.get h1
  rw [h2] at e1
  cases e1
  exact ⟨L', e2⟩
def eRevL (f : FE) : FE := e1 (fun d => match d with | .lst xs => some (.lst xs.reverse) | _ => none) f
theorem d_revL {k : Nat} {p1 p2 p3 : Pos} (he : DE X e f) : DE X (.Subscript e (.Slice none none (some (.UnaryOp .USub (.Constant (.int 1) k p1) p2)) p3) pos) (eRevL f) := (pe_revL he).imp fun σ H Q ⟨S, δ, st, d, st', rs, so, e, q⟩ => by
  obtain ⟨x, s1, ea, e3⟩ := bd_inv e
  obtain ⟨eo, es⟩ := of_inv e3
  clear e3
  subst es
  refine ⟨S, δ, st, x, _, rs, so, ea, fun v H1 L x1 so1 r => ?_⟩
  cases x with
  | lst xs =>
    cases eo
    obtain ⟨a, vs, L1, rfl, ha, na, rs', rfl⟩ := r.ilst
    obtain ⟨L', rr⟩ := rs'.rev
    exact ⟨a, vs, rfl, SqL.of ha, fun p np => q _ _ _ (x1.trans (HE.fresh np)) (so1.ext0 (HE.fresh np)) (.lst upd_same (fun z => so1.tr _ z np) (rr.ext0 (HE.fresh np)))⟩
  | _ => cases eo
theorem pick_back (xs : Array Value) : ((List.range xs.size).filterMap fun (m : Nat) => xs[((xs.size : Int) - 1 + (m : Int) * (-1)).toNat]?) = xs.toList.reverse := by
  have e : ∀ m ∈ List.range xs.size, xs[((xs.size : Int) - 1 + (m : Int) * (-1)).toNat]? = some (xs.toList.reverse.getD m default) := fun m hm => by
    have hm' : m < xs.size := List.mem_range.mp hm
    have h1 : ((xs.size : Int) - 1 + (m : Int) * (-1)).toNat = xs.size - 1 - m := by omega
    have h2 : xs.size - 1 - m < xs.size := by omega
    rw [h1, List.getD_eq_getElem?_getD, List.getElem?_reverse (by simpa using hm'), Array.getElem?_eq_getElem h2]
    rw [Array.length_toList, Array.getElem?_toList, Array.getElem?_eq_getElem h2]
    rfl
  have e2 : (List.range xs.size).filterMap (fun (m : Nat) => xs[((xs.size : Int) - 1 + (m : Int) * (-1)).toNat]?) = (List.range xs.size).map fun m => xs.toList.reverse.getD m default := by
    have gen : ∀ l : List Nat, (∀ m ∈ l, xs[((xs.size : Int) - 1 + (m : Int) * (-1)).toNat]? = some (xs.toList.reverse.getD m default)) → l.filterMap (fun (m : Nat) => xs[((xs.size : Int) - 1 + (m : Int) * (-1)).toNat]?) = l.map fun m => xs.toList.reverse.getD m default := by
      intro l
      induction l with
      | nil => intro _; rfl
      | cons m l ih =>
        intro h
        rw [List.filterMap_cons, h m List.mem_cons_self, List.map_cons, ih fun k hk => h k (List.mem_cons_of_mem _ hk)]
    exact gen _ e
  rw [e2]
  refine List.ext_getElem (by simp) fun i h1 h2 => ?_
  have hi : i < xs.toList.reverse.length := h2
  simp only [List.getElem_map, List.getElem_range]
  rw [List.getD_eq_getElem?_getD, List.getElem?_eq_getElem hi]
  rfl
theorem tup_back {s : Shared} {prog : Program} {w : World} {A : Around} {E : Value → Shared → Prop} {t sl : Addr} {items : Array Value} {tk : Tok} {Q : Value → Shared → Prop} (ht : IsTup s.heap t items) (hs : s.heap.IsSliceOf sl .none .none (.int (-1) tk))
    (h : Q (.ref s.heap.objs.size) { s with heap := s.heap.push { cls := .type "tuple", data := .seq items.toList.reverse.toArray } }) (hsz : items.size ≤ sizeLine) : wpAny (model prog w) A (getItem (.ref t) (.ref sl)) Q E s := by
  have hrv : sizeOk (.seq items.toList.reverse.toArray) := by
    show items.toList.reverse.toArray.size ≤ sizeLine
    rw [List.size_toArray, List.length_reverse, Array.length_toList]
    exact hsz
  obtain ⟨os, hos, hcs, hds⟩ := id hs
  have hTs : s.TypeIs (.ref sl) "slice" := ⟨os, hos, hcs⟩
  unfold getItem
  try with_reducible refine wpAny_holding ?_
  first | refine wpAny_bind (wpAny_pure ?_) | skip
  refine wpAny_bind (wpAny_sequenceKey ht.typeIs (by decide) (wpAny_bind (wpAny_callSpecial?_slot (name := Str.ofString "__getitem__") ht.typeIs PyProof.Rows.slot_tuple_getitem (wpAny_call_entry PyProof.Rows.slot_tuple_getitem ht.typeIs entry_tuple_getitem ?_ (args_tuple_getitem _ _)))))
  show wpAny _ _ (Builtin.Tuple.tupleItemsOf (.ref t) >>= _) _ _ s
  refine wpAny_bind (tupleItemsOf_ ht (wpAny_bind (wpAny_typeOf hTs ?_)))
  rw [if_pos (by decide)]
  have app : ∀ {Q' : Int × Int × Nat → Shared → Prop} {A' : Around} {E' : Value → Shared → Prop}, Q' ((items.size : Int) - 1, -1, items.size) s → wpAny (model prog w) A' (Builtin.Slice.sliceApplied (.ref sl) (pure (items.size : Int))) Q' E' s := fun {Q' A' E'} hq => by
    unfold Builtin.Slice.sliceApplied Builtin.Slice.sliceFields
    refine wpAny_bind (wpAny_bind (wpAny_field hos hds (x := .none) rfl (wpAny_bind (wpAny_field hos hds (x := .none) rfl (wpAny_bind (wpAny_field hos hds (x := .int (-1) tk) rfl (wpAny_pure ?_)))))))
    refine wpAny_bind (slicePart_int ?_)
    show wpAny _ _ (if ((-1 : Int) == 0) = true then _ else _) _ _ s
    rw [if_neg (by decide)]
    refine wpAny_bind (slicePart_none (wpAny_bind (slicePart_none (wpAny_bind (wpAny_pure ?_)))))
    have e1 : Builtin.Slice.sliceAdjust none none (-1) (items.size : Int) = ((items.size : Int) - 1, -1) := rfl
    have e2 : Builtin.Slice.slicePlaces ((items.size : Int) - 1) (-1) (-1) = items.size := by
      unfold Builtin.Slice.slicePlaces
      rw [if_neg (by decide)]
      by_cases hz : (items.size : Int) - 1 > -1
      · rw [if_pos hz]
        have : ((items.size : Int) - 1 - -1 - 1) / (- -1) + 1 = items.size := by
          rw [show (- -1 : Int) = 1 by decide, Int.ediv_one]; omega
        rw [this]; rfl
      · rw [if_neg hz]; omega
    show wpAny _ _ (match Builtin.Slice.sliceAdjust none none (-1) (items.size : Int) with | (lo, hi) => pure (lo, (-1 : Int), Builtin.Slice.slicePlaces lo hi (-1))) _ _ s
    rw [e1]
    show wpAny _ _ (pure ((items.size : Int) - 1, (-1 : Int), Builtin.Slice.slicePlaces ((items.size : Int) - 1) (-1) (-1))) _ _ s
    rw [e2]
    exact wpAny_pure hq
  refine wpAny_bind (app ?_)
  show wpAny _ _ (if ((items.size : Int) - 1 == 0 && (-1 : Int) == 1 && items.size == items.size) = true then _ else _) _ _ s
  rw [if_neg (by rw [show ((-1 : Int) == 1) = false from rfl, Bool.and_false, Bool.false_and]; exact Bool.false_ne_true), pick_back]
  first
    | exact wpAny_bind (m := Builtin.Tuple.tupleExact _) (wpAny_newObj_type (wpAny_pure ⟨_, rfl, wpAny_pure h⟩) hrv)
    | exact wpAny_bind (m := Builtin.Tuple.tupleExact _) (wpAny_newObj_type (wpAny_bind (wpAny_pure (wpAny_pure ⟨_, rfl, wpAny_pure h⟩))) hrv)
    | exact wpAny_bind (wpAny_bind (m := Builtin.Tuple.tupleExact _) (wpAny_newObj_type (wpAny_pure (wpAny_pure ⟨_, rfl, wpAny_pure h⟩)) hrv))
    | exact wpAny_bind (wpAny_bind (m := Builtin.Tuple.tupleExact _) (wpAny_newObj_type (wpAny_pure ⟨_, rfl, wpAny_pure h⟩) hrv))
def tRevT (K : PySem.W.Frag) (te : TE) : TE := fun σ H Q => te σ H fun x H1 => ∃ a xs, x = .ref a ∧ SqT K H1 a xs ∧ ∀ p, H1 p = none → Q (.ref p) (upd H1 p (.tup xs.reverse))
theorem pe_revT {te : TE} {k : Nat} {p1 p2 p3 : Pos} (he : PE X e te) : PE X (.Subscript e (.Slice none none (some (.UnaryOp .USub (.Constant (.int 1) k p1) p2)) p3) pos) (tRevT X.K te) := by
  refine ⟨fun pins s σ H Q I h => (Subscript_ (thn (he.run pins s σ H _ I h) fun v s1 ⟨x, H1, I1, r1, q1⟩ => ?_))⟩
  obtain ⟨a, xs, ex, hx, q⟩ := q1
  subst ex
  cases r1
  have hst : PO X (some (.UnaryOp .USub (.Constant (.int 1) k p1) p2)) (tPart (tUn (rU fun i => .int (-i)) (tC (.int 1)))) := (po_some (pe_un un_neg pe_int))
  refine wpAny_Slice (thn (po_none.run pins s1 σ H1 (fun o G => o = none ∧ G = H1) I1 ⟨rfl, rfl⟩) fun vl s2 ⟨l, H2, I2, pl, el, e2⟩ => ?_)
  subst el e2
  refine thn (po_none.run pins s2 σ H2 (fun o G => o = none ∧ G = H2) I2 ⟨rfl, rfl⟩) fun vu s3 ⟨u, H3, I3, pu, eu, e3⟩ => ?_
  subst eu e3
  refine thn (hst.run pins s3 σ H3 (fun o G => o = some (-1) ∧ G = H3) I3 ⟨1, rfl, -1, rfl, rfl, rfl⟩) fun vs s4 ⟨o, H4, I4, ps, eo, e4⟩ => ?_
  subst eo e4
  have I5 : Inv X pins σ H4 { s4 with heap := s4.heap.push { cls := .type "slice", data := .fields #[vl, vu, vs] } } := I4.kept (t' := s4.toks) (fun b ob q => Heap.get?_push_of_some _ q)
  obtain ⟨its, r, ht, hz⟩ := I5.tuple hx
  have hlen := r.length
  show wpAny (model X.prog X.w) X.A (subscriptTail e (.Slice none none (some (.UnaryOp .USub (.Constant (.int 1) k p1) p2)) p3) (.ref a) (.ref s4.heap.objs.size)) (EP X pins σ Q) X.xe { s4 with heap := s4.heap.push { cls := .type "slice", data := .fields #[vl, vu, vs] } }
  cases pl
  cases pu
  cases ps with
  | int i t =>
    refine tail_any (ops := [.ref a, .ref s4.heap.objs.size]) ht.typeIs (PyProof.Rows.slot_tuple_getitem.lookup) ?_ (by with_unfolding_all rfl)
    refine tup_back ht (Heap.IsSliceOf.new _ .none .none (.int (-1) t)) ?_ (by rw [List.size_toArray]; omega)
    refine ⟨.ref _, _, I5.laid (t' := s4.toks) (o := .tup xs.reverse) (fun b ob q => Heap.get?_push_of_some _ q) (Nat.le_refl _) ?_, rfl, q _ (I5.hok.fresh (Nat.le_refl _))⟩
    exact ⟨by rw [List.length_reverse]; exact hz, _, r.reverse, ⟨_, Heap.get?_push_size _ rfl, rfl, 0, by simp⟩⟩
def eRevT (f : FE) : FE := e1 (fun d => match d with | .tup xs => some (.tup xs.reverse) | _ => none) f
theorem d_revT {k : Nat} {p1 p2 p3 : Pos} (he : DE X e f) : DE X (.Subscript e (.Slice none none (some (.UnaryOp .USub (.Constant (.int 1) k p1) p2)) p3) pos) (eRevT f) := (pe_revT he).imp fun σ H Q ⟨S, δ, st, d, st', rs, so, e, q⟩ => by
  obtain ⟨x, s1, ea, e3⟩ := bd_inv e
  obtain ⟨eo, es⟩ := of_inv e3
  clear e3
  subst es
  refine ⟨S, δ, st, x, _, rs, so, ea, fun v H1 L x1 so1 r => ?_⟩
  cases x with
  | tup xs =>
    cases eo
    obtain ⟨a, vs, rfl, ha, rs'⟩ := r.itup
    obtain ⟨L', rr⟩ := rs'.rev
    exact ⟨a, vs, rfl, SqT.of ha, fun p np => q _ _ _ (x1.trans (HE.fresh np)) (so1.ext0 (HE.fresh np)) (.tup upd_same (rr.ext0 (HE.fresh np)))⟩
  | _ => cases eo

/-! ### t.count(x) -/
theorem pys_plain : ∀ {ds : List D} {n : Nat}, (∀ x ∈ ds, dOk n x = true) → PyData.plainAll (pys ds) = true
  | [], _, _ => rfl
  | d :: ds, n, h => by
    rw [pys, PyData.plainAll, pys_plain (fun x hx => h x (List.mem_cons_of_mem _ hx)), PyData.plain_of_canLay0 _ (dOk_ok n d (h d List.mem_cons_self)).1]
    rfl
theorem pys_depth : ∀ {ds : List D} {n : Nat}, (∀ x ∈ ds, dOk n x = true) → PyData.depthAll (pys ds) ≤ n
  | [], _, _ => Nat.zero_le _
  | d :: ds, n, h => by
    have h1 := (dOk_ok n d (h d List.mem_cons_self)).2
    have h2 := pys_depth (fun x hx => h x (List.mem_cons_of_mem _ hx))
    rw [pys, PyData.depthAll]
    omega
theorem pys_count {x : D} : ∀ (ds : List D), (pys ds).countP (fun y => PyData.eqv y x.py) = ds.countP fun y => y.eqv x
  | [] => rfl
  | d :: ds => by
    rw [pys, List.countP_cons, List.countP_cons, pys_count ds]
    rfl
def mCount : D → D → Option D
  | .tupk ds, x => if (ds.all (dOk 8) && dOk 8 x) = true then some (.int ((ds.countP fun y => y.eqv x : Nat) : Int)) else none
  | _, _ => none
theorem pe_count {o : Expr} {te : TE} {t : TA} {apos cpos : Pos} (ho : PE X o te) (ha : PA X [e] t)
    (hbase : attributeBase o "count" X.env (eval o X.env) = eval o X.env := by rfl)
    (hfew : ((backTo cpos (starEach [e] X.env)).all (fun x => !x.1) && (backToKw cpos (keywordEach [] X.env)).all (fun x => x.1.isSome) && decide (([e] : List Expr).length + ([] : List Keyword).length + (if ([] : List Keyword).isEmpty then 0 else 1) < 30)) = true := by rfl)
    (hline : (apos.endLine == cpos.line) = true := by rfl) (hs : starEach [e] X.env = (false, eval e X.env) :: starEach [] X.env := by rfl) (hplain : (backTo cpos (starEach [] X.env)).any (·.1) = false := by rfl) (hu : X.A.units + 64 < cLine) :
    PE X (.Call (.Attribute o "count" apos) [e] [] cpos) (fun σ H Q => te σ H fun x H1 => ∃ p ob vs, x = .ref p ∧ H1 p = some (.frz ob (.tup vs)) ∧ ob.dict = none ∧ t σ H1 fun xs H2 => ∃ S ds b d v L', xs = [v] ∧ (∃ L vs', H2 p = some (.frz ob (.tup vs')) ∧ Rps S H2 vs' ds L) ∧ Rp S H2 v b L' ∧ mCount (.tupk ds) b = some d ∧ ∀ u, Rp S H2 u d [] → Q u H2) := by
  refine ⟨fun pins s σ H Q I h => (wpAny_Call_method_late hbase hfew hline rfl (thn (ho.run pins s σ H _ I h) fun v s1 ⟨x, H1, I1, r1, p, ob, vs, ex, hp, hd, q1⟩ => ?_))⟩
  subst ex
  obtain rfl : v = Value.ref p := r1
  obtain ⟨hob, _, its, rv, o', ho', hc, _⟩ := (show ObjOk X.prog X.w H1 s1.heap p (.frz ob (.tup vs)) from I1.hok p _ hp)
  rw [hob] at ho'
  cases ho'
  refine ⟨"tuple", "tuple.count", PySem.F.plainAttrs_tuple, PySem.F.slot_tuple_count, PySem.F.type_tuple_count, ⟨ob, hob, hc⟩, fun a ea => by cases ea; exact ⟨ob, hob, hd⟩, ?_⟩
  have hA := ha.run cpos pins s1 σ H1 _ I1 q1
  rw [hs] at hA ⊢
  refine Calls.callWith_builtin (by show (false || (backTo cpos (starEach [] X.env)).any (·.1)) = false; rw [hplain] <;> rfl) (Calls.evalArgs_plain (thn hA fun us s2 ⟨xs, H2, I2, r2, S, ds, b, d, v, L', ex, ⟨L, vs', hp2, rr⟩, rb, e, q⟩ => ?_))
  subst ex
  have e : (if (ds.all (dOk 8) && dOk 8 b) = true then some (D.int ((ds.countP fun y => y.eqv b : Nat) : Int)) else none) = some d := e
  by_cases hk : (ds.all (dOk 8) && dOk 8 b) = true
  · rw [if_pos hk] at e
    cases e
    rw [Bool.and_eq_true] at hk
    obtain ⟨h1, h2⟩ := hk
    have h1' := List.all_eq_true.mp h1
    obtain ⟨u, rfl, ru⟩ := vals1 r2
    have hq : SqT X.K H2 p vs' := .inl (.inr ⟨_, hp2⟩)
    obtain ⟨its2, rv2, ht, hz⟩ := I2.tuple hq
    obtain ⟨as, q1⟩ := Dp.readsAll (X := X) I2 (pys ds) vs' its2 (rr.dp 8 h1') rv2
    obtain ⟨bs, q2⟩ := Dp.reads (X := X) I2 b.py v u (rb.dp 8 h2) ru
    refine PySem.SeqAt.count_tuple_data (show s2.heap.IsTuple p its2.toArray from ht) (by simpa using q1) q2 (pys_plain h1') (PyData.plain_of_canLay0 _ (dOk_ok 8 b h2).1) ?_ ?_
    · have := pys_depth h1'
      omega
    · rw [pys_count]
      exact ⟨.int ((ds.countP fun y => y.eqv b : Nat) : Int), H2, I2.tok _, ⟨_, rfl⟩, q _ (.int _)⟩
  · rw [if_neg hk] at e; cases e
theorem d_count {o : Expr} {apos cpos : Pos} (hu : X.A.units + 64 < cLine) (ho : DE X o f) (he : DE X e g)
    (hbase : attributeBase o "count" X.env (eval o X.env) = eval o X.env := by rfl)
    (hfew : ((backTo cpos (starEach [e] X.env)).all (fun x => !x.1) && (backToKw cpos (keywordEach [] X.env)).all (fun x => x.1.isSome) && decide (([e] : List Expr).length + ([] : List Keyword).length + (if ([] : List Keyword).isEmpty then 0 else 1) < 30)) = true := by rfl)
    (hline : (apos.endLine == cpos.line) = true := by rfl) (hst : starEach [e] X.env = (false, eval e X.env) :: starEach [] X.env := by rfl) (hplain : (backTo cpos (starEach [] X.env)).any (·.1) = false := by rfl) :
    DE X (.Call (.Attribute o "count" apos) [e] [] cpos) (e2 mCount f g) := (pe_count ho (pa_cons he pa_nil hst) hbase hfew hline hst hplain hu).imp fun σ H Q ⟨S, δ, st, d, st', rs, so, e, q⟩ => by
  obtain ⟨x, s1, ea, e3⟩ := bd_inv e
  obtain ⟨y, s2, eb, e4⟩ := bd_inv e3
  obtain ⟨eo, es⟩ := of_inv e4
  clear e4 e3
  subst es
  refine ⟨S, δ, st, x, s1, rs, so, ea, fun v H1 L1 x1 so1 r1 => ?_⟩
  cases x with
  | tupk ds =>
    obtain ⟨p, ob, vs, rfl, hp, hd, rr⟩ := r1.itupk
    exact ⟨p, ob, vs, rfl, hp, hd, S, δ, s1, y, _, rs.extS x1, so1, eb, fun w H2 L2' x2 so2 r2 => ⟨S, ds, y, d, w, L2', rfl, ⟨_, vs, x2.fz _ _ _ hp, rr.extS x2⟩, r2, eo, fun u ru => q u H2 [] (x1.trans x2) so2 ru⟩⟩
  | _ => cases eo
/-- tuple(a list), its object known -/
def bTupk : List D → Option D
  | [.lst ds] => some (.tupk ds)
  | _ => none
theorem b_tupk : CallR X (.type "tuple") (rDs bTupk) := by
  intro pins s σ H xs us Q I r ⟨S, ds, d, La, hn, rs, e, q⟩
  match ds, e with
  | [.lst ds], e =>
    cases e
    obtain ⟨v, rfl, rv⟩ := rs.i1
    obtain ⟨a, vs, L1, rfl, ea, na, rs', rfl⟩ := rv.ilst
    obtain ⟨u, rfl, rx⟩ := vals1 r
    cases rx
    obtain ⟨its, r', pl, hz⟩ := I.list (SqL.of (K := X.K) ea)
    have hlen := r'.length
    refine call_tuple_list pl.isList (fun h' kp => ?_) (by simp only [List.size_toArray] <;> omega)
    have I1 : Inv X pins σ H { s with heap := h' } := I.kept (t' := s.toks) kp
    have np := I1.hok.fresh (Nat.le_refl h'.objs.size)
    have I2 : Inv X pins σ (upd H h'.objs.size (.frz { cls := .type "tuple", data := .seq its.toArray } (.tup vs))) { s with heap := h'.push { cls := .type "tuple", data := .seq its.toArray } } :=
      I1.laid (t' := s.toks) (fun b o e => Heap.get?_push_of_some _ e) (Nat.le_refl _) ⟨Heap.get?_push_size _ rfl, hz, its, r', IsTup.new _ _⟩
    exact ⟨.ref h'.objs.size, _, I2, rfl, q _ _ _ (HE.fresh np) (.tupk upd_same rfl (rs'.ext0 (HE.fresh np)))⟩

/-! ### a written dict of texts -/
theorem pairs_imp {kvs : List (Str × Str)} {σ : L2.St} {H : Hp} {R : List (V × V) → Hp → Prop} (h : R (kvs.map fun p => (V.str p.1, V.str p.2)) H) : tPairs (kvs.map fun p => (tC (.str p.1), tC (.str p.2))) σ H R := by
  induction kvs generalizing R with
  | nil => exact h
  | cons p kvs ih => exact ih (R := fun ps H3 => R ((V.str p.1, V.str p.2) :: ps) H3) h
theorem d_dct {keys : List (Option Expr)} {values : List Expr} (kvs : List (Str × Str)) (h : PPs X pos keys values (kvs.map fun p => (tC (.str p.1), tC (.str p.2)))) (hall : keys.all (·.isSome) = true := by rfl) (hl : keys.length = values.length := by rfl) (h0 : keys ≠ [] := by exact fun z => nomatch z)
    (h15 : keys.length ≤ 15 := by decide) (hk : kvs.length ≤ 15 := by decide) (hm : mergeK [] (kvs.map fun p => ((Sum.inr p.1 : Key), V.str p.2)) = kvs.map fun p => ((Sum.inr p.1 : Key), V.str p.2) := by decide +kernel) :
    DE X (.Dict keys values pos) (eC (.dct kvs)) := (pe_disp h hall hl h0 h15).imp fun σ H Q ⟨S, δ, st, d, st', rs, so, e, q⟩ => fun p np => pairs_imp (by
  obtain ⟨e1, e2⟩ := ret_inv e
  subst e1 e2
  refine ⟨upd_same, kvs.map fun p => ((Sum.inr p.1 : Key), V.str p.2), by simp [kV], by simpa using hk, ?_⟩
  rw [hm, upd_upd]
  exact q _ _ [] (HE.fresh np) (so.ext0 (HE.fresh np)) (.dct upd_same))
def dGet : D → D → Option D
  | .dct kvs, .str k => (kvs.lookup k).map .str
  | _, _ => none
theorem valV_map {k : Str} : ∀ (kvs : List (Str × Str)), valV (kvs.map fun p => ((Sum.inr p.1 : Key), V.str p.2)) (Sum.inr k) = (kvs.lookup k).map V.str
  | [] => rfl
  | (a, b) :: kvs => by
    have ih := valV_map (k := k) kvs
    unfold valV at ih ⊢
    rw [List.map_cons, List.find?_cons, List.lookup_cons]
    by_cases h : a = k
    · subst h
      simp
    · have h1 : decide ((Sum.inr a : Key) = Sum.inr k) = false := decide_eq_false (fun z => h (Sum.inr.inj z))
      have h2 : (k == a) = false := beq_eq_false_iff_ne.mpr (Ne.symm h)
      simp only [h1, h2]
      exact ih
theorem d_get {o : Expr} (hu : X.A.units + 1 < cLine) (ho : DE X o f) (he : DE X e g) (hs : NoSl e := by intro _ _; rfl) : DE X (.Subscript o e pos) (e2 dGet f g) := (pe_dget hu ho he hs).imp fun σ H Q ⟨S, δ, st, d, st', rs, so, e, q⟩ => by
  obtain ⟨x, s1, ea, e3⟩ := bd_inv e
  obtain ⟨y, s2, eb, e4⟩ := bd_inv e3
  obtain ⟨eo, es⟩ := of_inv e4
  clear e4 e3
  subst es
  refine ⟨S, δ, st, x, s1, rs, so, ea, fun v H1 L1 x1 so1 r1 => ⟨S, δ, s1, y, _, rs.extS x1, so1, eb, fun w H2 L2' x2 so2 r2 => ?_⟩⟩
  have r1' := r1.extS x2
  cases x with
  | dct kvs =>
    cases y with
    | str k =>
      obtain ⟨t, e5, e6⟩ := Option.map_eq_some_iff.mp (show (kvs.lookup k).map D.str = some d from eo)
      subst e6
      obtain ⟨rfl, rfl⟩ := r2.istr
      cases r1' with
      | dct hp =>
        refine ⟨_, .str t, rfl, ?_, q _ H2 [] (x1.trans x2) so2 (.str t)⟩
        have := DGet.k (k := Sum.inr k) hp
        rw [valV_map, e5] at this
        exact this
    | _ => cases eo
  | _ => cases eo
end
end DL
set_option Elab.async false
set_option linter.all false
set_option maxRecDepth 100000
set_option maxHeartbeats 4000000
/-! DL7: a list moved into a list, ranges as lists and tuples, stores into lists of lists. -/
namespace DL
open PySem PySem.Spec PyProof.Rows L2

def dIAdd : D → D → Option D := fun a b => match a, b with | .int i, .int j => some (.int (i + j)) | _, _ => none
def eRepF (f g : FE) : FE := fun δ => (f δ).bd fun x => (g δ).bd fun y => M.of (match x, y with | .lst xs, .int k => dMul (.lst xs) (.int k) | _, _ => none)

section
variable {S : Sr} {W : Addr → Prop} {H0 H H' : Hp} {σ : L2.St} {δ : Ev}
/-- slot j is forgotten: what it owned may go elsewhere -/
theorem RS.drop (r : RS S W H0 H σ δ) (j : Nat) : RS S W H0 H σ (δ.set j .no) where
  len := by simp [r.len]
  he := r.he
  wA := r.wA
  wn := r.wn
  sl := by
    obtain ⟨Λ, h, h2⟩ := r.sl
    have g : ∀ i d, gt (δ.set j .no) i = some d → i ≠ j ∧ gt δ i = some d := fun i d e => by
      rw [gt_set] at e
      by_cases hij : j = i
      · subst hij
        rw [if_pos rfl] at e
        split at e <;> cases e
      · rw [if_neg hij] at e; exact ⟨Ne.symm hij, e⟩
    refine ⟨Λ, fun i d e => h i d (g i d e).2, fun i d e => ?_⟩
    rcases set_ow e with ⟨_, z⟩ | ⟨hj, e⟩
    · cases z
    · obtain ⟨n, w⟩ := h2 i d e
      exact ⟨n, fun a ha => ⟨(w a ha).1, fun k e' hk hg => (w a ha).2 k e' hk (g k e' hg).2⟩⟩
/-- the owned list at slot i takes in what no slot owns -/
theorem RS.wrM {i : Nat} {ds ds' : List D} {a : Addr} {vs vs' : List V} {L L' : List Addr} (r : RS S W H0 H σ δ) (hi : δ[i]? = some (.ow (.lst ds))) (ha : σ[i]? = some (some (.ref a))) (hH : H a = some (.lst vs)) (hr : Rps S H vs ds L)
    (hn : Rps S (upd H a (.lst vs')) vs' ds' L') (nd : L'.Nodup) (hn' : a ∉ L') (hw : ∀ b ∈ L', W b) (fr : ∀ b ∈ L', b ∈ L ∨ ∀ k e u L2, k ≠ i → gt δ k = some e → σ[k]? = some (some u) → Rp S H u e L2 → b ∉ L2) :
    RS S W H0 (upd H a (.lst vs')) σ (δ.set i (.ow (.lst ds'))) := by
  obtain ⟨Λ, h, h2⟩ := r.sl
  obtain ⟨v, e1, rp⟩ := h i _ (gt_ow hi)
  rw [ha] at e1
  cases e1
  obtain ⟨a', vs1, L1, e2, h3, nh, rs1, eL⟩ := rp.ilst
  cases e2
  rw [hH] at h3
  cases h3
  have eL1 := rs1.uniq hr
  subst eL1
  obtain ⟨ndi, hwi⟩ := h2 i _ hi
  rw [eL] at ndi hwi
  have wa : W a := (hwi a List.mem_cons_self).1
  have ilt : i < δ.length := gt_lt (gt_ow hi)
  have apart : ∀ b ∈ a :: L', ∀ k e, k ≠ i → gt δ k = some e → b ∉ Λ k := fun b hb k e hk hg => by
    rcases List.mem_cons.mp hb with z | hb
    · exact (hwi b (z ▸ List.mem_cons_self)).2 k e hk hg
    · rcases fr b hb with z | z
      · exact (hwi b (List.mem_cons_of_mem _ z)).2 k e hk hg
      · obtain ⟨u, p, q⟩ := h k e hg
        exact z k e u _ hk hg p q
  have inW : ∀ b ∈ a :: L', W b := fun b hb => (List.mem_cons.mp hb).elim (fun z => z ▸ wa) (hw b)
  refine ⟨by simp [r.len], r.he.trans (HE.write hH wa), r.wA, r.wn, upN Λ i (a :: L'), fun j d e => ?_, fun j d e => ?_⟩
  · rw [gt_set] at e
    by_cases hij : i = j
    · subst hij
      rw [if_pos rfl, if_pos ilt] at e
      cases e
      rw [upN_same]
      exact ⟨_, ha, .lst upd_same nh hn⟩
    · rw [if_neg hij] at e
      rw [upN_ne (Ne.symm hij)]
      obtain ⟨w, e1, e2⟩ := h j d e
      exact ⟨w, e1, e2.ext (HE.writeN hH) fun b hb z => (hwi a List.mem_cons_self).2 j d (Ne.symm hij) e (z ▸ hb)⟩
  · rcases set_ow e with ⟨rfl, es⟩ | ⟨hj, e⟩
    · rw [upN_same]
      refine ⟨List.nodup_cons.mpr ⟨hn', nd⟩, fun b hb => ⟨inW b hb, fun k e' hk hg => ?_⟩⟩
      rw [upN_ne hk]
      rw [gt_set, if_neg (Ne.symm hk)] at hg
      exact apart b hb k e' hk hg
    · rw [upN_ne hj]
      obtain ⟨n, w⟩ := h2 j d e
      refine ⟨n, fun b hb => ⟨(w b hb).1, fun k e' hk hg => ?_⟩⟩
      by_cases hki : k = i
      · rw [hki, upN_same]
        exact fun z => apart b z j d hj (gt_ow e) hb
      · rw [upN_ne hki]
        rw [gt_set, if_neg (Ne.symm hki)] at hg
        exact (w b hb).2 k e' hk hg
end

/-- x.append(y), y's own list goes into x -/
def sAppM (i j : Nat) : FS := fun δ => match δ[i]?, δ[j]? with
  | some (.ow (.lst ds)), some (.ow (.lst es)) => if ds.length < 1000000 then M.ret (.nx ((δ.set j .no).set i (.ow (.lst (ds ++ [.lst es]))))) else M.no
  | _, _ => M.no
/-- x.append(e), e a new list -/
def sAppF (i : Nat) (f : FE) : FS := fun δ => match δ[i]? with
  | some (.ow (.lst ds)) => (f δ).bd fun d => if ds.length < 1000000 then M.ret (.nx (δ.set i (.ow (.lst (ds ++ [d]))))) else M.no
  | _ => M.no
section
variable {X : Cx} {pos : Pos}
theorem ds_appM {i j : Nat} {x y : Str} {apos cpos p py : Pos} (hi : X.N[i]? = some x) (hv : Vis X.env.scope x) (hj : X.N[j]? = some y) (hvy : Vis X.env.scope y) (hij : i ≠ j)
    (hs : swapsWith (.Call (.Attribute (.Name x p) "append" apos) [.Name y py] [] cpos) none pos.line X.env = pure false := by rfl)
    (hbase : attributeBase (.Name x p) "append" X.env (eval (.Name x p) X.env) = eval (.Name x p) X.env := by rfl)
    (hfew : ((backTo cpos (starEach [.Name y py] X.env)).all (fun x => !x.1) && (backToKw cpos (keywordEach [] X.env)).all (fun x => x.1.isSome) && decide (([.Name y py] : List Expr).length + ([] : List Keyword).length + (if ([] : List Keyword).isEmpty then 0 else 1) < 30)) = true := by rfl)
    (hline : (apos.endLine == cpos.line) = true := by rfl) (hst : starEach [.Name y py] X.env = (false, eval (.Name y py) X.env) :: starEach [] X.env := by rfl) (hplain : (backTo cpos (starEach [] X.env)).any (·.1) = false := by rfl)
    (hd : (x == ("__debug__" : Str)) = false := by decide) (hcd : (x == ("__classdict__" : Str)) = false := by decide) (hdy : (y == ("__debug__" : Str)) = false := by decide) (hcdy : (y == ("__classdict__" : Str)) = false := by decide) :
    DS X (.Expr (.Call (.Attribute (.Name x p) "append" apos) [.Name y py] [] cpos) pos) (sAppM i j) :=
  (ps_expr (pe_bm PySem.F.plainAttrs_list PySem.F.slot_list_append PySem.F.type_list_append mt_append (pe_var hi hv hd hcd) (pa_cons (pe_var hj hvy hdy hcdy) pa_nil hst) hbase hfew hline hst hplain) hs).imp fun σ H Q ⟨S, W, H0, δ, st, o, st', rs, so, e, q⟩ => by
  unfold sAppM at e
  cases ei : δ[i]? with
  | none => rw [ei] at e; cases e
  | some s1 =>
    cases ej : δ[j]? with
    | none => rw [ei, ej] at e; cases s1 <;> first | cases e | (rename_i d; cases d <;> cases e)
    | some s2 =>
      rw [ei, ej] at e
      cases s1 with
      | ow d1 =>
        cases d1 with
        | lst ds =>
          cases s2 with
          | ow d2 =>
            cases d2 with
            | lst es =>
              have e : (if ds.length < 1000000 then M.ret (.nx ((δ.set j .no).set i (.ow (.lst (ds ++ [.lst es]))))) else M.no) st = some (o, st') := e
              by_cases hl : ds.length < 1000000
              · rw [if_pos hl] at e
                obtain ⟨e1, e2⟩ := ret_inv e
                subst e1 e2
                obtain ⟨a, vs, L, hσ, hH, nh, rr, nd⟩ := rs.own ei
                obtain ⟨b, ws, M', hσ2, hH2, nh2, rr2, nd2⟩ := rs.own ej
                refine ⟨.ref a, hσ, .inl ⟨rfl, _, SqL.of hH⟩, .ref b, hσ2, a, vs, .ref b, rfl, rfl, hH, Nat.lt_of_lt_of_le (by rw [rr.len]; exact hl) (size_ok (Nat.le_refl _)), ?_⟩
                obtain ⟨Λ, h, h2⟩ := id rs.sl
                obtain ⟨v1, e1, rp1⟩ := h i _ (gt_ow ei)
                rw [hσ] at e1
                cases e1
                obtain ⟨v2, e2, rp2⟩ := h j _ (gt_ow ej)
                rw [hσ2] at e2
                cases e2
                have u1 := rp1.uniq (.lst hH nh rr)
                have u2 := rp2.uniq (.lst hH2 nh2 rr2)
                have ap : ∀ c ∈ b :: M', c ∉ a :: L := fun c hc => by
                  have := ((h2 j _ ej).2 c (u2 ▸ hc)).2 i _ hij (gt_ow ei)
                  rwa [u1] at this
                have nda := List.nodup_cons.mp nd
                have rd := rs.drop j
                have ei' : (δ.set j .no)[i]? = some (.ow (.lst ds)) := by rw [List.getElem?_set_ne (Ne.symm hij)]; exact ei
                refine q σ _ (rd.wrM (L' := L ++ (b :: M')) ei' hσ hH rr ?_ ?_ ?_ ?_ ?_) (so.wr nh)
                · exact (rr.append (Rps.one (.lst hH2 nh2 rr2))).ext (HE.writeN hH) fun c hc z => by
                    rcases List.mem_append.mp hc with hc | hc
                    · exact nda.1 (z ▸ hc)
                    · exact ap c hc (z ▸ List.mem_cons_self)
                · exact List.nodup_append.mpr ⟨nda.2, nd2, fun c hc c' hc' z => ap c' hc' (z ▸ List.mem_cons_of_mem _ hc)⟩
                · intro hc
                  rcases List.mem_append.mp hc with hc | hc
                  · exact nda.1 hc
                  · exact ap a hc List.mem_cons_self
                · intro c hc
                  rcases List.mem_append.mp hc with hc | hc
                  · exact ((h2 i _ ei).2 c (u1 ▸ List.mem_cons_of_mem _ hc)).1
                  · exact ((h2 j _ ej).2 c (u2 ▸ hc)).1
                · intro c hc
                  rcases List.mem_append.mp hc with hc | hc
                  · exact .inl hc
                  · refine .inr fun k e' u L2 hk hg hu hr => ?_
                    rw [gt_set] at hg
                    by_cases hjk : j = k
                    · subst hjk
                      rw [if_pos rfl] at hg
                      split at hg <;> cases hg
                    · rw [if_neg hjk] at hg
                      obtain ⟨u', p1, p2⟩ := h k e' hg
                      rw [hu] at p1
                      cases p1
                      have := p2.uniq hr
                      subst this
                      exact ((h2 j _ ej).2 c (u2 ▸ hc)).2 k e' (Ne.symm hjk) hg
              · rw [if_neg hl] at e; cases e
            | _ => cases e
          | _ => cases e
        | _ => cases e
      | _ => cases e
theorem ds_appF {i : Nat} {x : Str} {e : Expr} {f : FE} {apos cpos p : Pos} (hi : X.N[i]? = some x) (hv : Vis X.env.scope x) (he : DF X e f)
    (hs : swapsWith (.Call (.Attribute (.Name x p) "append" apos) [e] [] cpos) none pos.line X.env = pure false := by rfl)
    (hbase : attributeBase (.Name x p) "append" X.env (eval (.Name x p) X.env) = eval (.Name x p) X.env := by rfl)
    (hfew : ((backTo cpos (starEach [e] X.env)).all (fun x => !x.1) && (backToKw cpos (keywordEach [] X.env)).all (fun x => x.1.isSome) && decide (([e] : List Expr).length + ([] : List Keyword).length + (if ([] : List Keyword).isEmpty then 0 else 1) < 30)) = true := by rfl)
    (hline : (apos.endLine == cpos.line) = true := by rfl) (hst : starEach [e] X.env = (false, eval e X.env) :: starEach [] X.env := by rfl) (hplain : (backTo cpos (starEach [] X.env)).any (·.1) = false := by rfl)
    (hd : (x == ("__debug__" : Str)) = false := by decide) (hcd : (x == ("__classdict__" : Str)) = false := by decide) :
    DS X (.Expr (.Call (.Attribute (.Name x p) "append" apos) [e] [] cpos) pos) (sAppF i f) :=
  (ps_expr (pe_bm PySem.F.plainAttrs_list PySem.F.slot_list_append PySem.F.type_list_append mt_append (pe_var hi hv hd hcd) (pa_cons he pa_nil hst) hbase hfew hline hst hplain) hs).imp fun σ H Q ⟨S, W, H0, δ, st, o, st', rs, so, e, q⟩ => by
  unfold sAppF at e
  cases ei : δ[i]? with
  | none => rw [ei] at e; cases e
  | some sl =>
    rw [ei] at e
    cases sl with
    | ow d =>
      cases d with
      | lst ds =>
        obtain ⟨d, s1, ea, e⟩ := bd_inv (show ((f δ).bd fun d => if ds.length < 1000000 then M.ret (.nx (δ.set i (.ow (.lst (ds ++ [d]))))) else M.no) st = some (o, st') from e)
        by_cases hl : ds.length < 1000000
        · rw [if_pos hl] at e
          obtain ⟨e1, e2⟩ := ret_inv e
          subst e1 e2
          obtain ⟨a, vs, L, hσ, hH, nh, rr, nd⟩ := rs.own ei
          refine ⟨.ref a, hσ, .inl ⟨rfl, _, SqL.of hH⟩, S, δ, st, d, _, rs.rs, so, ea, fun v H1 L1 x1 so1 r1 n1 f1 => ?_⟩
          have hH1 : H1 a = some (.lst vs) := x1.lst _ _ (fun z => nh (z ▸ S.hA)) hH
          refine ⟨a, vs, v, rfl, rfl, hH1, Nat.lt_of_lt_of_le (by rw [rr.len]; exact hl) (size_ok (Nat.le_refl _)), ?_⟩
          have rr1 := rr.extS x1
          have nda := List.nodup_cons.mp nd
          obtain ⟨Λ, h, h2⟩ := id rs.sl
          obtain ⟨v1, e1, rp1⟩ := h i _ (gt_ow ei)
          rw [hσ] at e1
          cases e1
          have u1 := rp1.uniq (.lst hH nh rr)
          have ap : ∀ c ∈ L1, c ∉ a :: L := fun c hc hc' => by
            obtain ⟨_, xs, w⟩ := (Rp.lst hH nh rr).ne c hc'
            rw [f1 c hc] at w
            cases w
          refine q σ _ ((rs.ext x1).wrM (L' := L ++ L1) ei hσ hH1 rr1 ?_ ?_ ?_ ?_ ?_) (so1.wr nh)
          · exact (rr1.append (Rps.one r1)).ext (HE.writeN hH1) fun c hc z => by
              rcases List.mem_append.mp hc with hc | hc
              · exact nda.1 (z ▸ hc)
              · exact ap c hc (z ▸ List.mem_cons_self)
          · exact List.nodup_append.mpr ⟨nda.2, n1, fun c hc c' hc' z => ap c' hc' (z ▸ List.mem_cons_of_mem _ hc)⟩
          · intro hc
            rcases List.mem_append.mp hc with hc | hc
            · exact nda.1 hc
            · exact ap a hc List.mem_cons_self
          · intro c hc
            rcases List.mem_append.mp hc with hc | hc
            · exact ((h2 i _ ei).2 c (u1 ▸ List.mem_cons_of_mem _ hc)).1
            · exact rs.wn c (rs.he.new c (f1 c hc))
          · intro c hc
            rcases List.mem_append.mp hc with hc | hc
            · exact .inl hc
            · refine .inr fun k e' u L2 hk hg hu hr hcL => ?_
              obtain ⟨u', p1, p2⟩ := h k e' hg
              rw [hu] at p1
              cases p1
              have := (p2.extS x1).uniq hr
              subst this
              obtain ⟨_, xs, w⟩ := p2.ne c hcL
              rw [f1 c hc] at w
              cases w
        · rw [if_neg hl] at e; cases e
      | _ => cases e
    | _ => cases e

/-! ### list(range(n)), tuple(range(n)) -/
theorem rgV_rngD {S : Sr} {H : Hp} : ∀ (n : Nat) (lo : Int), Rps S H ((List.range n).map fun i => V.int (lo + (i : Nat))) (rngD lo n) []
  | 0, _ => .nil
  | n + 1, lo => by
    rw [List.range_succ_eq_map, List.map_cons, List.map_map]
    refine Rps.cons (L := []) (L' := []) (by simpa using Rp.int (S := S) (H := H) lo) ?_
    have := rgV_rngD (S := S) (H := H) n (lo + 1)
    have e : ((fun i => V.int (lo + (i : Nat))) ∘ Nat.succ) = fun i : Nat => V.int (lo + 1 + (i : Nat)) := by
      funext i
      show V.int (lo + ((i + 1 : Nat) : Int)) = _
      congr 1
      omega
    rw [e]
    exact this
def eLstR1 (f : FE) : FE := e1 (fun d => match d with | .int j => if 0 ≤ j ∧ j.natAbs ≤ 1000000 then some (.lst (rngD 0 j.toNat)) else none | _ => none) f
def eTupR1 (f : FE) : FE := e1 (fun d => match d with | .int j => if 0 ≤ j ∧ j.natAbs ≤ 1000000 then some (.tup (rngD 0 j.toNat)) else none | _ => none) f
theorem df_lstR1 {a : Expr} {f : FE} {p p2 pos2 : Pos} (hc : X.calm = true) (hg : Gl X "list") (hm : X.mg "list" = none) (hg2 : Gl X "range") (hm2 : X.mg "range" = none) (ha : DE X a f)
    (na : starEach [a] X.env = (false, eval a X.env) :: starEach [] X.env := by rfl) (na2 : starEach [.Call (.Name "range" p2) [a] [] pos2] X.env = (false, eval (.Call (.Name "range" p2) [a] [] pos2) X.env) :: starEach [] X.env := by rfl) :
    DF X (.Call (.Name "list" p) [.Call (.Name "range" p2) [a] [] pos2] [] pos) (eLstR1 f) := (pe_listRg hc hg hm (prg_1 hg2 hm2 ha na) na2).imp fun σ H Q ⟨S, δ, st, d, st', rs, so, e, q⟩ => by
  obtain ⟨x, s1, ea, e3⟩ := bd_inv e
  obtain ⟨eo, es⟩ := of_inv e3
  clear e3
  subst es
  refine ⟨S, δ, st, x, _, rs, so, ea, fun v H1 L x1 so1 r => ?_⟩
  cases x with
  | int j =>
    have eo : (if 0 ≤ j ∧ j.natAbs ≤ 1000000 then some (D.lst (rngD 0 j.toNat)) else none) = some d := eo
    by_cases h : 0 ≤ j ∧ j.natAbs ≤ 1000000
    · rw [if_pos h] at eo
      cases eo
      obtain ⟨rfl, rfl⟩ := r.iint
      refine ⟨j, rfl, RgOk.of_le (by omega) (by omega) (by omega) (by omega), fun p np => ?_⟩
      have e2 : rgV 0 j = (List.range j.toNat).map fun i => V.int ((0 : Int) + (i : Nat)) := by unfold rgV; rw [Int.sub_zero]
      rw [e2]
      exact q _ _ [p] (x1.trans (HE.fresh np)) (so1.ext0 (HE.fresh np)) (.lst upd_same (fun z => so1.tr _ z np) (rgV_rngD _ _)) (by simp) fun b hb => by
        have : b = p := by simpa using hb
        exact this ▸ x1.new _ np
    · rw [if_neg h] at eo; cases eo
  | _ => cases eo
theorem d_tupR1 {a : Expr} {f : FE} {p p2 pos2 : Pos} (hc : X.calm = true) (hg : Gl X "tuple") (hm : X.mg "tuple" = none) (hg2 : Gl X "range") (hm2 : X.mg "range" = none) (ha : DE X a f)
    (na : starEach [a] X.env = (false, eval a X.env) :: starEach [] X.env := by rfl) (na2 : starEach [.Call (.Name "range" p2) [a] [] pos2] X.env = (false, eval (.Call (.Name "range" p2) [a] [] pos2) X.env) :: starEach [] X.env := by rfl) :
    DE X (.Call (.Name "tuple" p) [.Call (.Name "range" p2) [a] [] pos2] [] pos) (eTupR1 f) := (pe_tupRg hc hg hm (prg_1 hg2 hm2 ha na) na2).imp fun σ H Q ⟨S, δ, st, d, st', rs, so, e, q⟩ => by
  obtain ⟨x, s1, ea, e3⟩ := bd_inv e
  obtain ⟨eo, es⟩ := of_inv e3
  clear e3
  subst es
  refine ⟨S, δ, st, x, _, rs, so, ea, fun v H1 L x1 so1 r => ?_⟩
  cases x with
  | int j =>
    have eo : (if 0 ≤ j ∧ j.natAbs ≤ 1000000 then some (D.tup (rngD 0 j.toNat)) else none) = some d := eo
    by_cases h : 0 ≤ j ∧ j.natAbs ≤ 1000000
    · rw [if_pos h] at eo
      cases eo
      obtain ⟨rfl, rfl⟩ := r.iint
      refine ⟨j, rfl, RgOk.of_le (by omega) (by omega) (by omega) (by omega), fun p np => ?_⟩
      have e2 : rgV 0 j = (List.range j.toNat).map fun i => V.int ((0 : Int) + (i : Nat)) := by unfold rgV; rw [Int.sub_zero]
      rw [e2]
      exact q _ _ [] (x1.trans (HE.fresh np)) (so1.ext0 (HE.fresh np)) (.tup upd_same (rgV_rngD _ _))
    · rw [if_neg h] at eo; cases eo
  | _ => cases eo
theorem d_lstR1 {a : Expr} {f : FE} {p p2 pos2 : Pos} (hc : X.calm = true) (hg : Gl X "list") (hm : X.mg "list" = none) (hg2 : Gl X "range") (hm2 : X.mg "range" = none) (ha : DE X a f)
    (na : starEach [a] X.env = (false, eval a X.env) :: starEach [] X.env := by rfl) (na2 : starEach [.Call (.Name "range" p2) [a] [] pos2] X.env = (false, eval (.Call (.Name "range" p2) [a] [] pos2) X.env) :: starEach [] X.env := by rfl) :
    DE X (.Call (.Name "list" p) [.Call (.Name "range" p2) [a] [] pos2] [] pos) (eLstR1 f) := df_de (df_lstR1 hc hg hm hg2 hm2 ha na na2)
end
end DL
set_option Elab.async false
set_option linter.all false
set_option maxRecDepth 100000
set_option maxHeartbeats 4000000
/-! DTake: the laws' source of draws: what _law_take and _law_begin do, for any text that has them. -/
namespace DL
open PySem PySem.Spec PyProof.Rows L2

/-- a draw below m -/
def take (s : Src) (m : Int) : Int × Src :=
  if s.big = 0 ∧ s.pos < s.script.length then
    let c : Int := ((s.script.getD s.pos 0).natAbs : Nat)
    if c < 10 ^ 18 then (c % m, { s with pos := s.pos + 1, big := 0 })
    else if 0 < c then (c % m, { s with pos := s.pos + 1, big := c / m })
    else (0, s)
  else if 0 < s.big then (s.big % m, { s with big := s.big / m })
  else ((s.seed * 69621 + 7) % 2147483647 / 5 % m, { s with seed := (s.seed * 69621 + 7) % 2147483647 })
def F__law_take : List D → M D := fun ds s => match ds with
  | [.src, .int m] => if 0 < m ∧ m ≤ 1000000 then some (.int (take s m).1, (take s m).2) else none
  | _ => none
theorem draw_eq {s : Src} {m : Int} (h : 0 < m ∧ m ≤ 1000000) : F__law_take [.src, .int m] s = some (.int (take s m).1, (take s m).2) := by
  show (if 0 < m ∧ m ≤ 1000000 then _ else _) = _
  rw [if_pos h]
theorem take_lo (s : Src) {m : Int} (h : 0 < m) : 0 ≤ (take s m).1 := by
  unfold take
  dsimp only
  split
  · split
    · exact Int.emod_nonneg _ (by omega)
    · split
      · exact Int.emod_nonneg _ (by omega)
      · exact Int.le_refl _
  · split
    · exact Int.emod_nonneg _ (by omega)
    · exact Int.emod_nonneg _ (by omega)
theorem take_hi (s : Src) {m : Int} (h : 0 < m) : (take s m).1 < m := by
  unfold take
  dsimp only
  split
  · split
    · exact Int.emod_lt_of_pos _ h
    · split
      · exact Int.emod_lt_of_pos _ h
      · exact h
  · split
    · exact Int.emod_lt_of_pos _ h
    · exact Int.emod_lt_of_pos _ h
/-- the list of the source -/
def lst4 (q : Addr) (s : Src) : HO := .lst [.ref q, .int s.pos, .int s.big, .int s.seed]

section
variable {X : Cx}
theorem src_sub {p : Addr} {xs : List V} {H : Hp} {k : Nat} {v : V} (h : xs[k]? = some v) : atI xs (k : Int) = some v := atI_nat h
/-- what stays of the rest when the source's list is written -/
theorem ext_src {S : Sr} {H : Hp} {xs ys : List V} (h : H S.dA = some (.lst xs)) : Ext S H (upd H S.dA (.lst ys)) := HE.write h rfl
theorem srcOk_upd {S : Sr} {H : Hp} {s s' : Src} (h : SrcOk S H s) (hs : s'.script = s.script) : SrcOk S (upd H S.dA (.lst [.ref S.q, .int s'.pos, .int s'.big, .int s'.seed])) s' :=
  ⟨h.ne, upd_same, by rw [upd_ne h.ne, hs]; exact h.cp, fun b hb => by
    by_cases e : b = S.dA
    · rw [e, upd_same]; exact fun z => nomatch z
    · rw [upd_ne e]; exact h.tr b hb⟩
end
section
variable (K : PySem.W.Frag)
abbrev tI4 (i : Int) : TE := tOp (rIxL K) (tVar 0) (tC (.int i))
abbrev cInt : List V → Hp → VK → Prop := fun xs H Q => (∃ i, xs = [.int i] ∧ Q (.int i) H) ∨ ∃ k, xs = [.bl k] ∧ Q (.int (if k then 1 else 0)) H
abbrev cLen : List V → Hp → VK → Prop := fun xs H Q => ∃ p ys, xs = [.ref p] ∧ (SqL K H p ys ∨ SqT K H p ys) ∧ Q (.int ys.length) H
abbrev cAbs : List V → Hp → VK → Prop := fun xs H Q => ∃ i, xs = [.int i] ∧ Q (.int (if i < 0 then -i else i)) H
/-- the reading of the draw's body -/
def tTake : TS :=
  tSeq (tIfS (tAnd (tTest (tOp rEq (tI4 K 2) (tC (.int 0)))) (tTest (tOp (rI0 fun i j => .bl (decide (i < j))) (tI4 K 1) (tCB (cLen K) (tCons (tI4 K 0) tNil)))))
      (tSeq (tAsg (tCB cAbs (tCons (tCB cInt (tCons (tOp (rIxL K) (tI4 K 0) (tI4 K 1)) tNil)) tNil)) (gSub (tVar 0) (tC (.int 2)) rSetL))
      (tSeq (tAsg (tOp (rI0 fun i j => .int (i + j)) (tI4 K 1) (tC (.int 1))) (gSub (tVar 0) (tC (.int 1)) rSetL))
        (tIfS (tTest (tOp (rI0 fun i j => .bl (decide (i < j))) (tI4 K 2) (tOp (rI CPow fun i j => .int (i ^ j.toNat)) (tC (.int 10)) (tC (.int 18)))))
          (tSeq (tAsg (tCB cInt (tCons (tI4 K 2) tNil)) (gName 2))
          (tSeq (tAsg (tC (.int 0)) (gSub (tVar 0) (tC (.int 2)) rSetL))
            (tRet (tOp (rI (fun _ j => 0 < j) fun i j => .int (i % j)) (tVar 2) (tVar 1)))))
          tNext))) tNext)
  (tSeq (tIfS (tTest (tOp (rI0 fun i j => .bl (decide (j < i))) (tI4 K 2) (tC (.int 0))))
      (tSeq (tAsg (tOp (rI (fun _ j => 0 < j) fun i j => .int (i % j)) (tCB cInt (tCons (tI4 K 2) tNil)) (tVar 1)) (gName 3))
      (tSeq (tAsg (tOp (rI CDivW fun i j => .int (i / j)) (tCB cInt (tCons (tI4 K 2) tNil)) (tVar 1)) (gSub (tVar 0) (tC (.int 2)) rSetL))
        (tRet (tVar 3)))) tNext)
  (tSeq (tAsg (tOp (rI (fun _ j => 0 < j) fun i j => .int (i % j)) (tCB cInt (tCons (tOp (rI0 fun i j => .int (i + j)) (tOp (rI CMul fun i j => .int (i * j)) (tI4 K 3) (tC (.int 69621))) (tC (.int 7))) tNil)) (tC (.int 2147483647))) (gSub (tVar 0) (tC (.int 3)) rSetL))
    (tRet (tOp (rI (fun _ j => 0 < j) fun i j => .int (i % j)) (tCB cInt (tCons (tOp (rI CDiv fun i j => .int (i / j)) (tI4 K 3) (tC (.int 5))) tNil)) (tVar 1)))))
end
section
variable {K : PySem.W.Frag} {S : Sr} {H : Hp} {σ : L2.St} {s : Src}
/-- d[i] reads -/
theorem i4 {xs : List V} {i : Nat} {v : V} {Q : VK} (h0 : σ[0]? = some (some (.ref S.dA))) (h : H S.dA = some (.lst xs)) (hv : xs[i]? = some v) (q : Q v H) : tI4 K (i : Int) σ H Q :=
  ⟨_, h0, S.dA, xs, i, v, rfl, rfl, SqL.of h, atI_nat hv, q⟩
theorem log_small {m : Int} (h1 : 0 < m) (h2 : m ≤ 1000000) : m.natAbs.log2 < 9000 := by
  have : m.natAbs < 2 ^ 20 := by omega
  exact Nat.lt_of_lt_of_le ((Nat.log2_lt (by omega)).mpr this) (by decide)
theorem abs_int (c : Int) : (if c < 0 then -c else c) = ((c.natAbs : Nat) : Int) := by
  by_cases h : c < 0
  · rw [if_pos h]; omega
  · rw [if_neg h]; omega
/-- the part behind the first if, from any state of the source -/
theorem take_tail {m : Int} {Q : VK} {D' : Ends} (hm : 0 < m ∧ m ≤ 1000000) (hrt : D'.rt = Q) (h0 : σ[0]? = some (some (.ref S.dA))) (h1 : σ[1]? = some (some (.int m))) (hl : σ.length = 4) (so : SrcOk S H s)
    (q : ∀ (r : Int) (s' : Src) (H' : Hp), (r, s') = (if 0 < s.big then (s.big % m, { s with big := s.big / m }) else ((s.seed * 69621 + 7) % 2147483647 / 5 % m, { s with seed := (s.seed * 69621 + 7) % 2147483647 })) → Ext S H H' → SrcOk S H' s' → Q (.int r) H') :
    tSeq (tIfS (tTest (tOp (rI0 fun i j => .bl (decide (j < i))) (tI4 K 2) (tC (.int 0))))
      (tSeq (tAsg (tOp (rI (fun _ j => 0 < j) fun i j => .int (i % j)) (tCB cInt (tCons (tI4 K 2) tNil)) (tVar 1)) (gName 3))
      (tSeq (tAsg (tOp (rI CDivW fun i j => .int (i / j)) (tCB cInt (tCons (tI4 K 2) tNil)) (tVar 1)) (gSub (tVar 0) (tC (.int 2)) rSetL))
        (tRet (tVar 3)))) tNext)
  (tSeq (tAsg (tOp (rI (fun _ j => 0 < j) fun i j => .int (i % j)) (tCB cInt (tCons (tOp (rI0 fun i j => .int (i + j)) (tOp (rI CMul fun i j => .int (i * j)) (tI4 K 3) (tC (.int 69621))) (tC (.int 7))) tNil)) (tC (.int 2147483647))) (gSub (tVar 0) (tC (.int 3)) rSetL))
    (tRet (tOp (rI (fun _ j => 0 < j) fun i j => .int (i % j)) (tCB cInt (tCons (tOp (rI CDiv fun i j => .int (i / j)) (tI4 K 3) (tC (.int 5))) tNil)) (tVar 1)))) D' σ H := by
  have hA := so.at_
  refine i4 (i := 2) h0 hA rfl ⟨s.big, 0, rfl, rfl, _, rfl, ite2 (fun hb => ?_) (fun hb => ?_)⟩
  · have hb' : 0 < s.big := of_decide_eq_true hb
    have e3 : (σ.set 3 (some (.int (s.big % m))))[0]? = some (some (.ref S.dA)) := by rw [List.getElem?_set_ne (by decide)]; exact h0
    have e1 : (σ.set 3 (some (.int (s.big % m))))[1]? = some (some (.int m)) := by rw [List.getElem?_set_ne (by decide)]; exact h1
    have e33 : (σ.set 3 (some (V.int (s.big % m))))[3]? = some (some (.int (s.big % m))) := List.getElem?_set_self (by omega)
    refine i4 (i := 2) h0 hA rfl (.inl ⟨s.big, rfl, .int m, h1, s.big, m, rfl, rfl, hm.1, ?_⟩)
    refine i4 (i := 2) e3 hA rfl (.inl ⟨s.big, rfl, .int m, e1, s.big, m, rfl, rfl, ⟨hm.1, log_small hm.1 hm.2⟩, ?_⟩)
    refine ⟨_, e3, S.dA, _, 2, 2, rfl, rfl, hA, rfl, _, e33, ?_⟩
    rw [hrt]
    exact q (s.big % m) { s with big := s.big / m } _ (by rw [if_pos hb']) (ext_src hA) (srcOk_upd (s' := { s with big := s.big / m }) so rfl)
  · have hb' : ¬ 0 < s.big := fun z => hb (decide_eq_true z)
    refine i4 (i := 3) h0 hA rfl ⟨s.seed, 69621, rfl, rfl, .inr ⟨by decide, by decide⟩, s.seed * 69621, 7, rfl, rfl, .inl ⟨s.seed * 69621 + 7, rfl, s.seed * 69621 + 7, 2147483647, rfl, rfl, (by show (0 : Int) < 2147483647; decide), ?_⟩⟩
    refine ⟨_, h0, S.dA, _, 3, 3, rfl, rfl, hA, rfl, ?_⟩
    have so' : SrcOk S (upd H S.dA (.lst [.ref S.q, .int s.pos, .int s.big, .int ((s.seed * 69621 + 7) % 2147483647)])) { s with seed := (s.seed * 69621 + 7) % 2147483647 } := srcOk_upd (s' := { s with seed := (s.seed * 69621 + 7) % 2147483647 }) so rfl
    refine i4 (i := 3) h0 so'.at_ rfl ⟨(s.seed * 69621 + 7) % 2147483647, 5, rfl, rfl, ⟨by decide, by decide⟩, .inl ⟨_, rfl, .int m, h1, _, m, rfl, rfl, hm.1, ?_⟩⟩
    rw [hrt]
    exact q _ { s with seed := (s.seed * 69621 + 7) % 2147483647 } _ (by rw [if_neg hb']) (ext_src hA) so'
theorem take_reads {m : Int} {Q : VK} (so : SrcOk S H s) (hm : 0 < m ∧ m ≤ 1000000) (q : ∀ v H' L', Ext S H H' → SrcOk S H' (take s m).2 → Rp S H' v (.int (take s m).1) L' → Q v H') :
    tTake K { nx := fun _ H' => Q .non H', rt := Q } [some (.ref S.dA), some (.int m), none, none] H := by
  have hA := so.at_
  have q' : ∀ (r : Int) (s' : Src) (H' : Hp), (r, s') = take s m → Ext S H H' → SrcOk S H' s' → Q (.int r) H' := fun r s' H' e x so' => by
    have e1 : r = (take s m).1 := congrArg Prod.fst e
    have e2 : s' = (take s m).2 := congrArg Prod.snd e
    subst e1 e2
    exact q _ H' [] x so' (.int _)
  refine i4 (i := 2) rfl hA rfl ⟨rfl, _, rfl, ite2 (fun hb => ?_) (fun hb => ?_)⟩
  · have hb0 : s.big = 0 := V.int.inj (of_decide_eq_true hb)
    refine i4 (i := 1) rfl hA rfl (i4 (i := 0) rfl hA rfl ⟨S.q, _, rfl, .inl (SqL.of so.cp), s.pos, s.script.length, rfl, ?_, _, rfl, ite2 (fun hp => ?_) (fun hp => ?_)⟩)
    · rw [List.length_map]
    · have hp' : s.pos < s.script.length := by
        have := of_decide_eq_true hp
        omega
      have hc : s.script[s.pos]? = some (s.script.getD s.pos 0) := by
        rw [List.getD_eq_getElem?_getD, List.getElem?_eq_getElem hp']; rfl
      generalize hcc : s.script.getD s.pos 0 = c at hc
      have hcv : (s.script.map V.int)[s.pos]? = some (.int c) := by rw [List.getElem?_map, hc]; rfl
      refine i4 (i := 0) rfl hA rfl (i4 (i := 1) rfl hA rfl ⟨S.q, _, s.pos, .int c, rfl, rfl, SqL.of so.cp, atI_nat hcv, .inl ⟨c, rfl, c, rfl, ?_⟩⟩)
      refine ⟨_, rfl, S.dA, _, 2, 2, rfl, rfl, hA, rfl, ?_⟩
      rw [abs_int]
      have so1 : SrcOk S (upd H S.dA (.lst [.ref S.q, .int s.pos, .int ((c.natAbs : Nat) : Int), .int s.seed])) { s with big := ((c.natAbs : Nat) : Int) } := srcOk_upd (s' := { s with big := ((c.natAbs : Nat) : Int) }) so rfl
      refine i4 (i := 1) rfl so1.at_ rfl ⟨s.pos, 1, rfl, rfl, ?_⟩
      have ep : ((s.pos : Int) + 1) = ((s.pos + 1 : Nat) : Int) := by omega
      show gSub (tVar 0) (tC (V.int 1)) rSetL (.int ((s.pos : Int) + 1)) _ _ _
      rw [ep]
      refine ⟨_, rfl, S.dA, _, 1, 1, rfl, rfl, so1.at_, rfl, ?_⟩
      have so2 : SrcOk S (upd H S.dA (.lst [.ref S.q, .int ((s.pos + 1 : Nat) : Int), .int ((c.natAbs : Nat) : Int), .int s.seed])) { s with pos := s.pos + 1, big := ((c.natAbs : Nat) : Int) } := srcOk_upd (s' := { s with pos := s.pos + 1, big := ((c.natAbs : Nat) : Int) }) so rfl
      have x2 : Ext S H (upd H S.dA (.lst [.ref S.q, .int ((s.pos + 1 : Nat) : Int), .int ((c.natAbs : Nat) : Int), .int s.seed])) := ext_src hA
      rw [upd_upd]
      have e18 : (10 : Int) ^ (18 : Int).toNat = 10 ^ 18 := by simp
      refine i4 (i := 2) rfl so2.at_ rfl ?_
      refine ⟨10, 18, rfl, rfl, ⟨by decide, by decide, by decide⟩, ?_⟩
      refine ⟨((c.natAbs : Nat) : Int), (10 : Int) ^ (18 : Int).toNat, rfl, rfl, ?_⟩
      refine ⟨_, rfl, ?_⟩
      rw [e18]
      generalize hZ : (10 : Int) ^ 18 = Z
      refine ite2 (fun hs => ?_) (fun hs => ?_)
      · have hs' : ((c.natAbs : Nat) : Int) < 10 ^ 18 := by rw [hZ]; exact of_decide_eq_true hs
        refine i4 (i := 2) rfl so2.at_ rfl (.inl ⟨_, rfl, ?_⟩)
        refine ⟨_, rfl, S.dA, _, 2, 2, rfl, rfl, so2.at_, rfl, _, rfl, _, rfl, _, m, rfl, rfl, hm.1, ?_⟩
        have so3 : SrcOk S (upd (upd H S.dA (.lst [.ref S.q, .int ((s.pos + 1 : Nat) : Int), .int ((c.natAbs : Nat) : Int), .int s.seed])) S.dA (.lst [.ref S.q, .int ((s.pos + 1 : Nat) : Int), .int 0, .int s.seed])) { s with pos := s.pos + 1, big := 0 } := srcOk_upd (s' := { s with pos := s.pos + 1, big := 0 }) so2 rfl
        refine q' _ { s with pos := s.pos + 1, big := 0 } _ ?_ (x2.trans (ext_src so2.at_)) so3
        unfold take
        rw [if_pos (show s.big = 0 ∧ s.pos < s.script.length from ⟨hb0, hp'⟩)]
        simp only [hcc]
        rw [if_pos hs']
      · have hs' : ¬ ((c.natAbs : Nat) : Int) < 10 ^ 18 := by rw [hZ]; exact fun z => hs (decide_eq_true z)
        have hpos : (0 : Int) < ((c.natAbs : Nat) : Int) := by
          have : (0 : Int) < 10 ^ 18 := by decide
          omega
        refine take_tail (K := K) (s := { s with pos := s.pos + 1, big := ((c.natAbs : Nat) : Int) }) hm rfl rfl rfl rfl so2 fun r s' H' e x so' => q' r s' H' ?_ (x2.trans x) so'
        rw [e, if_pos (show (0 : Int) < { s with pos := s.pos + 1, big := ((c.natAbs : Nat) : Int) : Src }.big from hpos)]
        unfold take
        rw [if_pos (show s.big = 0 ∧ s.pos < s.script.length from ⟨hb0, hp'⟩)]
        simp only [hcc]
        rw [if_neg hs', if_pos hpos]
    · have hp' : ¬ s.pos < s.script.length := fun z => hp (decide_eq_true (by omega))
      refine take_tail (K := K) hm rfl rfl rfl rfl so fun r s' H' e x so' => q' r s' H' ?_ x so'
      rw [e]
      unfold take
      rw [if_neg (show ¬ (s.big = 0 ∧ s.pos < s.script.length) from fun z => hp' z.2)]
  · have hb0 : s.big ≠ 0 := fun z => hb (decide_eq_true (by rw [z]))
    refine iteF (take_tail (K := K) hm rfl rfl rfl rfl so fun r s' H' e x so' => q' r s' H' ?_ x so')
    rw [e]
    unfold take
    rw [if_neg (show ¬ (s.big = 0 ∧ s.pos < s.script.length) from fun z => hb0 z.1)]
end

/-! ### the source's making, the law's own start -/
def spBegin (K : PySem.W.Frag) : Sp := fun vs H Q _ => ∃ (a : Addr) (ns : List Int), vs = [.ref a] ∧ SqL K H a (ns.map V.int) ∧ ns.length ≤ 63 ∧
  ∀ H' p q seed, H p = none → H q = none → p ≠ q → H' p = some (.lst [.ref q, .int 0, .int 0, .int seed]) → H' q = some (.lst (ns.map V.int)) → Q (.ref p) H'
/-- the reading of its body -/
def tBegin (K : PySem.W.Frag) : TS :=
  tSeq (tAsg (tC (.int 5)) (gName 1))
  (tSeq (tFor (iList K (tVar 0)) (gName 2) (tAsg (tOp (rI (fun _ j => 0 < j) fun i j => .int (i % j)) (tOp (rI0 fun i j => .int (i + j)) (tOp (rI0 fun i j => .int (i + j)) (tOp (rI CMul fun i j => .int (i * j)) (tVar 1) (tC (.int 48271))) (tOp (rI (fun _ j => 0 < j) fun i j => .int (i % j)) (tCB cInt (tCons (tVar 2) tNil)) (tC (.int 2147483629)))) (tC (.int 11))) (tC (.int 2147483647))) (gName 1)))
  (tRet (tLst (tCons (tCB (fun xs H Q => ∃ p ys, xs = [.ref p] ∧ (SqL K H p ys ∨ SqT K H p ys) ∧ ∀ l, H l = none → Q (.ref l) (upd H l (.lst ys))) (tCons (tVar 0) tNil)) (tCons (tC (.int 0)) (tCons (tC (.int 0)) (tCons (tVar 1) tNil)))))))
theorem begin_reads {K : PySem.W.Frag} {vs : List V} {H : Hp} {Q : VK} {E : XK} (h : spBegin K vs H Q E) : tBegin K { nx := fun _ H' => Q .non H', rt := Q } (L2.start ["script", "seed", "cell"] vs) H := by
  obtain ⟨a, ns, rfl, hS, hl, q⟩ := h
  refine ⟨.ref a, rfl, a, rfl, ⟨_, hS⟩, ?_⟩
  refine for_list (K := K) (a := a) (xs := ns.map V.int) (fun i σ G => G = H ∧ ∃ z y, σ = [some (.ref a), some (.int z), y]) ⟨rfl, 5, none, rfl⟩ (fun i σ G _ ⟨e, _⟩ => e ▸ hS) (fun i x σ G hx ⟨e, z, y, eσ⟩ => ?_) (fun σ G ⟨e, z, y, eσ⟩ => ?_)
  · subst e eσ
    obtain ⟨c, hc⟩ : ∃ c : Int, x = .int c := by
      rw [List.getElem?_map] at hx
      obtain ⟨c, _, e⟩ := Option.map_eq_some_iff.mp hx
      exact ⟨c, e.symm⟩
    subst hc
    refine ⟨.int z, rfl, z, 48271, rfl, rfl, .inr ⟨by decide, by decide⟩, .int c, rfl, .inl ⟨c, rfl, c, 2147483629, rfl, rfl, (by show (0 : Int) < 2147483629; decide), _, _, rfl, rfl, _, 11, rfl, rfl, _, 2147483647, rfl, rfl, (by show (0 : Int) < 2147483647; decide), rfl, _, _, rfl⟩⟩
  · subst e eσ
    refine ⟨.ref a, rfl, a, ns.map V.int, rfl, .inl hS, fun l hl2 => ⟨.int z, rfl, Nat.le_trans (by show 4 ≤ 1000000; decide) (size_ok (Nat.le_refl _)), fun p np => ?_⟩⟩
    have npl : p ≠ l := fun e => by rw [e, upd_same] at np; cases np
    rw [upd_ne npl] at np
    exact q _ p l z np hl2 npl upd_same (by rw [upd_ne (Ne.symm npl), upd_same])
/-- the law's statements behind the source's making -/
theorem law_reads {n : Nat} {g : FS} {a p q : Addr} {ns : List Int} {seed : Int} {H' : Hp} {D' : Ends} (hpq : p ≠ q) (hp : H' p = some (.lst [.ref q, .int 0, .int 0, .int seed])) (hq : H' q = some (.lst (ns.map V.int)))
    (hg : ∀ st : Src, ∃ st', g (.no :: .rd .src :: List.replicate n .no) st = some (.rt (.bl true), st')) (hrt : ∀ H2, D'.rt (.bl true) H2) : tS g D' (some (.ref a) :: some (.ref p) :: List.replicate n none) H' := by
  obtain ⟨st', e⟩ := hg ⟨ns, 0, 0, seed⟩
  refine ⟨⟨p, q, fun b => b = p ∨ b = q, .inl rfl, .inr rfl⟩, fun b => H' b = none ∨ b = p, H', _, _, _, st', ⟨by simp, HE.refl, .inr rfl, fun b z => .inl z, fun _ => [], fun i d h => ?_, fun i d h => ?_⟩, ⟨Ne.symm hpq, hp, hq, fun b hb z => ?_⟩, e, fun v H2 L _ _ r => ?_⟩
  · match i with
    | 0 => cases h
    | 1 =>
      cases h
      exact ⟨_, rfl, .src (S := ⟨p, q, fun b => b = p ∨ b = q, .inl rfl, .inr rfl⟩)⟩
    | i + 2 =>
      unfold gt at h
      simp only [List.getElem?_cons_succ, List.getElem?_replicate] at h
      split at h <;> cases h
  · match i with
    | 0 => cases h
    | 1 => cases h
    | i + 2 =>
      simp only [List.getElem?_cons_succ, List.getElem?_replicate] at h
      split at h <;> cases h
  · rcases hb with rfl | rfl
    · rw [hp] at z; cases z
    · rw [hq] at z; cases z
  · obtain ⟨rfl, _⟩ := r.ibl
    exact hrt H2
def spLaw (K : PySem.W.Frag) : Sp := fun vs H Q _ => ∃ (a : Addr) (ns : List Int), vs = [.ref a] ∧ SqL K H a (ns.map V.int) ∧ ns.length ≤ 63 ∧ ∀ H', Q (.bl true) H'
end DL
set_option Elab.async false
set_option linter.all false
set_option maxRecDepth 100000
set_option maxHeartbeats 4000000
/-! DL8: comprehensions with two loops. -/
namespace DL
open PySem PySem.Spec PyProof.Rows L2

def cLp2 (vs : List Nat) (g : D → Ev → Option Ev) (tt : Ev → M Bool) (inn : Ev → M (List D)) (δ : Ev) : List D → M (List D)
  | [] => M.ret []
  | x :: xs => (M.of (g x (wipeE δ vs))).bd fun δ1 => (tt δ1).bd fun b => if b = true then (inn δ1).bd fun ys => (cLp2 vs g tt inn δ xs).bd fun zs => M.ret (ys ++ zs) else cLp2 vs g tt inn δ xs
def inLc (h : FI) (vs : List Nat) (g : D → Ev → Option Ev) (tt : Ev → M Bool) (te : FE) : Ev → M (List D) := fun δ => (h δ).bd fun ds => if ds.length ≤ 1000 then cLp vs g tt te δ ds else M.no
def eLc2 (h : FI) (vs : List Nat) (g : D → Ev → Option Ev) (tt : Ev → M Bool) (h1 : FI) (vs1 : List Nat) (g1 : D → Ev → Option Ev) (tt1 : Ev → M Bool) (te : FE) : FE :=
  fun δ => (h δ).bd fun ds => if ds.length ≤ 1000 then (cLp2 vs g tt (inLc h1 vs1 g1 tt1 te) δ ds).bd fun ys => M.ret (.lst ys) else M.no
theorem Rs.extN {S : Sr} {H H' : Hp} {Dl : Addr} {σ : L2.St} {δ : Ev} (r : Rs (S.hide Dl) H σ δ) (he : HE (fun b => b = S.dA ∨ b = Dl) H H') : Rs (S.hide Dl) H' σ δ := ⟨r.len, fun j d e => by
  obtain ⟨v, L, h1, h2⟩ := r.at_ j d e
  exact ⟨v, L, h1, h2.ext he fun a ha z => (h2.ne a ha).1 (z.elim (fun z => .inl (z ▸ S.hA)) .inr)⟩⟩
theorem Rps.extN {S : Sr} {H H' : Hp} {Dl : Addr} {vs : List V} {ds : List D} {L : List Addr} (r : Rps (S.hide Dl) H vs ds L) (he : HE (fun b => b = S.dA ∨ b = Dl) H H') : Rps (S.hide Dl) H' vs ds L :=
  r.ext he fun a ha z => (r.ne a ha).1 (z.elim (fun z => .inl (z ▸ S.hA)) .inr)
theorem tLc2_imp {h h1 : FI} {vs vs1 : List Nat} {g g1 : D → Ev → Option Ev} {tt tt1 : Ev → M Bool} {te : FE} : ∀ σ H Q, tD (eLc2 h vs g tt h1 vs1 g1 tt1 te) σ H Q → tLc2 (tI h) (tGd vs g) (tBo tt) (tI h1) (tGd vs1 g1) (tBo tt1) (tD te) vs vs1 σ H Q := fun σ H Q ⟨S, δ, st, d, st', rs, so, e, q⟩ => by
  obtain ⟨ds, s1, eh, e⟩ := bd_inv e
  by_cases hz : ds.length ≤ 1000
  rotate_left
  · rw [if_neg hz] at e; cases e
  rw [if_pos hz] at e
  obtain ⟨all, s2, ec, e⟩ := bd_inv e
  obtain ⟨e1, e2⟩ := ret_inv e
  subst e1 e2
  refine ⟨S, δ, st, ds, s1, rs, so, eh, fun J H1 La x1 so1 wk Dl nD => ?_⟩
  have nA : Dl ≠ S.dA := fun z => so1.tr _ S.hA (z ▸ nD)
  have nq : Dl ≠ S.q := fun z => so1.tr _ S.hQ (z ▸ nD)
  have rs1 : Rs (S.hide Dl) H1 σ δ := (rs.extS x1).hide fun xs z => by rw [nD] at z; cases z
  have laA : ∀ b, b = S.dA → b ∉ La := fun b e hb => (wk.la b hb).1 (e ▸ S.hA)
  refine ⟨fun i m H => m = ds.length - i ∧ i ≤ ds.length ∧ ∃ acc accD L sti ys, H Dl = some (.lst acc) ∧ Rps (S.hide Dl) H acc accD L ∧ acc.length ≤ i * 1000 ∧ Ext S H1 H ∧ SrcOk (S.hide Dl) H sti ∧ cLp2 vs g tt (inLc h1 vs1 g1 tt1 te) δ (ds.drop i) sti = some (ys, st') ∧ accD ++ ys = all, ⟨ds.length, rfl, Nat.zero_le _, [], [], [], s1, all, upd_same, .nil, Nat.zero_le _, HE.refl.out nD, (so1.ext0 (HE.fresh nD)).hide (by rw [upd_same]; exact fun z => nomatch z), ec, rfl⟩, ?_⟩
  rintro i m H2 ⟨rfl, hi, acc, accD, L, sti, ys, hD, ra, hl, x2, so2, ec2, eall⟩
  have x2' : HE (fun b => b ∉ La) H1 H2 := x2.mono laA
  by_cases hlt : i < ds.length
  · refine .inr ⟨wk.go i H2 x2' hlt, fun H' => (fun i m H => m = ds.length - i ∧ i ≤ ds.length ∧ ∃ acc accD L sti ys, H Dl = some (.lst acc) ∧ Rps (S.hide Dl) H acc accD L ∧ acc.length ≤ i * 1000 ∧ Ext S H1 H ∧ SrcOk (S.hide Dl) H sti ∧ cLp2 vs g tt (inLc h1 vs1 g1 tt1 te) δ (ds.drop i) sti = some (ys, st') ∧ accD ++ ys = all) (i + 1) (ds.length - (i + 1)) H', fun H' hN => ⟨ds.length - (i + 1), by omega, hN⟩, fun x H3 y => ?_⟩
    obtain ⟨d, Ld, hd, x3, rd, hLd⟩ := wk.yld i H2 x H3 x2' so2.show'.tr hlt y
    have hdrop : ds.drop i = d :: ds.drop (i + 1) := by
      have e1 := List.drop_eq_getElem_cons hlt
      have e2 : ds[i] = d := by
        have := List.getElem?_eq_getElem hlt
        rw [this] at hd
        exact Option.some.inj hd
      rw [e1, e2]
    rw [hdrop, cLp2] at ec2
    obtain ⟨δ1, t1, eg0, ec3⟩ := bd_inv ec2
    obtain ⟨eg, et⟩ := of_inv eg0
    clear eg0 ec2
    subst et
    obtain ⟨b, t2, eb, ec2⟩ := bd_inv ec3
    clear ec3
    have x13 : Ext S H1 H3 := x2.trans x3.up0
    have so3 : SrcOk (S.hide Dl) H3 t1 := so2.ext0 x3
    have hD3 : H3 Dl = some (.lst acc) := x3.lst _ _ (fun z => z) hD
    refine ⟨S.hide Dl, wipeE δ vs, d, Ld, δ1, (rs1.extS (S := S.hide Dl) x13).wipe vs, rd.hide fun a ha z => ?_, eg, fun σ2 o2 l2 rs2 => ⟨wipe_eq o2 l2, S.hide Dl, δ1, t1, b, t2, rs2, so3, eb, fun H4 x4 so4 => ?_⟩⟩
    · obtain ⟨_, xs, w⟩ := wk.la a (hLd a ha)
      rw [z, nD] at w
      cases w
    have hD4 : H4 Dl = some (.lst acc) := x4.lst _ _ nA hD3
    have ra4 : Rps (S.hide Dl) H4 acc accD L := (ra.ext0 x3).extS x4
    have x14 : Ext S H1 H4 := x13.trans x4
    cases b with
    | false =>
      rw [if_neg Bool.false_ne_true] at ec2
      refine iteF ?_
      exact ⟨rfl, hlt, acc, accD, L, t2, ys, hD4, ra4, by omega, x14, so4, ec2, eall⟩
    | true =>
      rw [if_pos rfl] at ec2
      refine iteT ?_
      obtain ⟨iy, t3, ei, ec4⟩ := bd_inv ec2
      obtain ⟨zs, t4, er, ec5⟩ := bd_inv ec4
      obtain ⟨e1, e2⟩ := ret_inv ec5
      clear ec2 ec4 ec5
      subst e1 e2
      obtain ⟨ds1, u1, eh1, ei⟩ := bd_inv ei
      by_cases hz1 : ds1.length ≤ 1000
      rotate_left
      · rw [if_neg hz1] at ei; cases ei
      rw [if_pos hz1] at ei
      refine ⟨S.hide Dl, δ1, t2, ds1, u1, rs2.extS x4, so4, eh1, fun J1 H5 La1 x5 so5 wk1 => ?_⟩
      have hD5 : H5 Dl = some (.lst acc) := x5.lst _ _ nA hD4
      have ra5 : Rps (S.hide Dl) H5 acc accD L := ra4.extS x5
      have x15 : Ext S H1 H5 := x14.trans x5
      have rs5 : Rs (S.hide Dl) H5 σ2 δ1 := (rs2.extS x4).extS x5
      have laA1 : ∀ b, (b = S.dA ∨ b = Dl) → b ∉ La1 := fun b e hb => (wk1.la b hb).1 (e.elim (fun z => .inl (z ▸ S.hA)) .inr)
      refine ⟨fun j k H => k = ds1.length - j ∧ j ≤ ds1.length ∧ ∃ acc accD L stj yj, H Dl = some (.lst acc) ∧ Rps (S.hide Dl) H acc accD L ∧ acc.length ≤ i * 1000 + j ∧ Ext S H1 H ∧ HE (fun b => b = S.dA ∨ b = Dl) H5 H ∧ SrcOk (S.hide Dl) H stj ∧ cLp vs1 g1 tt1 te δ1 (ds1.drop j) stj = some (yj, t3) ∧ accD ++ (yj ++ zs) = all, ⟨ds1.length, rfl, Nat.zero_le _, acc, accD, L, u1, iy, hD5, ra5, hl, x15, HE.refl, so5, ei, eall⟩, ?_⟩
      clear hD5 ra5 hD4 ra4 hD3 hD ra hl
      rintro j k H6 ⟨rfl, hj, acc, accD, L, stj, yj, hD6, ra6, hl6, x16, x56, so6, ej, eall6⟩
      have x56' : HE (fun b => b ∉ La1) H5 H6 := x56.mono laA1
      by_cases hjt : j < ds1.length
      · refine .inr ⟨wk1.go j H6 x56' hjt, fun H' => (fun j k H => k = ds1.length - j ∧ j ≤ ds1.length ∧ ∃ acc accD L stj yj, H Dl = some (.lst acc) ∧ Rps (S.hide Dl) H acc accD L ∧ acc.length ≤ i * 1000 + j ∧ Ext S H1 H ∧ HE (fun b => b = S.dA ∨ b = Dl) H5 H ∧ SrcOk (S.hide Dl) H stj ∧ cLp vs1 g1 tt1 te δ1 (ds1.drop j) stj = some (yj, t3) ∧ accD ++ (yj ++ zs) = all) (j + 1) (ds1.length - (j + 1)) H', fun H' hN => ⟨ds1.length - (j + 1), by omega, hN⟩, fun x' H7 y' => ?_⟩
        obtain ⟨d', Ld', hd', x7, rd', hLd'⟩ := wk1.yld j H6 x' H7 x56' so6.tr hjt y'
        have hdrop1 : ds1.drop j = d' :: ds1.drop (j + 1) := by
          have e1 := List.drop_eq_getElem_cons hjt
          have e2 : ds1[j] = d' := by
            have := List.getElem?_eq_getElem hjt
            rw [this] at hd'
            exact Option.some.inj hd'
          rw [e1, e2]
        rw [hdrop1, cLp] at ej
        obtain ⟨δ2, v1, eg0, ec3⟩ := bd_inv ej
        obtain ⟨eg1, et⟩ := of_inv eg0
        clear eg0 ej
        subst et
        obtain ⟨b', v2, eb', ec2⟩ := bd_inv ec3
        clear ec3
        have x17 : Ext S H1 H7 := x16.trans x7.up0
        have x57 : HE (fun b => b = S.dA ∨ b = Dl) H5 H7 := x56.trans x7.up0
        have so7 : SrcOk (S.hide Dl) H7 v1 := so6.ext0 x7
        have hD7 : H7 Dl = some (.lst acc) := x7.lst _ _ (fun z => z) hD6
        refine ⟨S.hide Dl, wipeE δ1 vs1, d', Ld', δ2, (rs5.extN x57).wipe vs1, rd', eg1, fun σ3 o3 l3 rs3 => ⟨wipe_eq o3 l3, S.hide Dl, δ2, v1, b', v2, rs3, so7, eb', fun H8 x8 so8 => ?_⟩⟩
        have hD8 : H8 Dl = some (.lst acc) := x8.lst _ _ nA hD7
        have ra8 : Rps (S.hide Dl) H8 acc accD L := (ra6.ext0 x7).extS x8
        have x18 : Ext S H1 H8 := x17.trans x8
        have x58 : HE (fun b => b = S.dA ∨ b = Dl) H5 H8 := x57.trans (x8.mono fun _ => .inl)
        cases b' with
        | false =>
          rw [if_neg Bool.false_ne_true] at ec2
          refine iteF ?_
          exact ⟨rfl, hjt, acc, accD, L, v2, yj, hD8, ra8, by omega, x18, x58, so8, ec2, eall6⟩
        | true =>
          rw [if_pos rfl] at ec2
          refine iteT ?_
          obtain ⟨yD, v3, ey, ec4⟩ := bd_inv ec2
          obtain ⟨ys', v4, er', ec5⟩ := bd_inv ec4
          obtain ⟨e1, e2⟩ := ret_inv ec5
          clear ec2 ec4 ec5
          subst e1 e2
          refine ⟨S.hide Dl, δ2, v2, yD, v3, rs3.extS x8, so8, ey, fun v H9 L9 x9 so9 r9 => ?_⟩
          have hD9 : H9 Dl = some (.lst acc) := x9.lst _ _ nA hD8
          have ra9 := (ra8.extS x9).append (Rps.one r9)
          have hsz : acc.length < 1000000 := by
            have h1 : i * 1000 ≤ 999 * 1000 := Nat.mul_le_mul_right _ (by omega)
            omega
          refine ⟨acc, hD9, Nat.lt_of_lt_of_le hsz (size_ok (Nat.le_refl _)), rfl, hjt, acc ++ [v], accD ++ [yD], _, v3, ys', upd_same, ra9.ext (HE.writeN hD9) (fun a ha z => (ra9.ne a ha).1 (.inr z)), by rw [List.length_append]; exact Nat.succ_le_succ hl6, (x18.trans x9).out nD, (x58.trans (x9.mono fun _ => .inl)).trans ((HE.writeN hD9).mono fun _ => .inr), so9.writeN nA nq, er', by rw [List.append_assoc]; exact eall6⟩
      · have ed : ds1.drop j = [] := List.drop_eq_nil_of_le (by omega)
        rw [ed, cLp] at ej
        obtain ⟨e1, e2⟩ := ret_inv ej
        subst e1 e2
        refine .inl ⟨wk1.stop j H6 x56' (by omega), rfl, hlt, acc, accD, L, t3, zs, hD6, ra6, by omega, x16, so6, er, eall6⟩
  · have ei : ds.drop i = [] := List.drop_eq_nil_of_le (by omega)
    rw [ei, cLp2] at ec2
    obtain ⟨e1, e2⟩ := ret_inv ec2
    subst e1 e2
    rw [List.append_nil] at eall
    subst eall
    exact .inl ⟨wk.stop i H2 x2' (by omega), q (.ref Dl) H2 (Dl :: L) (x1.trans x2) so2.show' (.lst hD (fun z => so1.tr _ z nD) ra.show')⟩
section
variable {X : Cx}
theorem d_lc2 {elt tg iter tg1 iter1 : Expr} {ifs ifs1 : List Expr} {scope : Scope} {own : List (Str × Nat)} {vs1 : List Nat} {pos : Pos} {h h1 : FI} {g g1 : D → Ev → Option Ev} {tt tt1 : Ev → M Bool} {te : FE} (hc : X.calm = true) (hN : X.N.Nodup) (hi : DI X tg iter h) (ok : BlkOk X.N X.env.scope scope own) (hv : ∀ i ∈ vs1, i ∈ own.map (·.2))
    (hg : ∀ (s : Shared) (H : Hp) (C : Addr) (cl : List (Str × Addr)) (fp : List Addr), DG (X.blk s H scope (compEnvC scope cl C X.env) fp) tg (own.map (·.2)) g) (ht : ∀ (s : Shared) (H : Hp) (C : Addr) (cl : List (Str × Addr)) (fp : List Addr), DTs (X.blk s H scope (compEnvC scope cl C X.env) fp) ifs tt)
    (hi1 : ∀ (s : Shared) (H : Hp) (C : Addr) (cl : List (Str × Addr)) (fp : List Addr), DI (X.blk s H scope (compEnvC scope cl C X.env) fp) tg1 iter1 h1)
    (hg1 : ∀ (s : Shared) (H : Hp) (C : Addr) (cl : List (Str × Addr)) (fp : List Addr), DG (X.blk s H scope (compEnvC scope cl C X.env) fp) tg1 vs1 g1) (ht1 : ∀ (s : Shared) (H : Hp) (C : Addr) (cl : List (Str × Addr)) (fp : List Addr), DTs (X.blk s H scope (compEnvC scope cl C X.env) fp) ifs1 tt1)
    (he : ∀ (s : Shared) (H : Hp) (C : Addr) (cl : List (Str × Addr)) (fp : List Addr), DE (X.blk s H scope (compEnvC scope cl C X.env) fp) elt te) (hs : ∀ x, foldedSetIterable iter X.env x = pure x := by intro _; rfl) (hs1 : ∀ env x, foldedSetIterable iter1 env x = pure x := by intro _ _; rfl) :
    DE X (.ListComp elt [⟨tg, iter, ifs, 0⟩, ⟨tg1, iter1, ifs1, 0⟩] scope pos) (eLc2 h (own.map (·.2)) g tt h1 vs1 g1 tt1 te) := (pe_lc2 hc hN hi ok hv hg ht hi1 hg1 ht1 he hs hs1).imp tLc2_imp
end
end DL
set_option Elab.async false
set_option linter.all false
set_option maxRecDepth 100000
set_option maxHeartbeats 4000000
/-! DL9: greatest, least and sum of a list or a tuple; deep membership. -/
namespace DL
open PySem PySem.Spec PyProof.Rows L2

section
variable {prog : Program} {w : World} {A : Around} {E : Value → Shared → Prop} {s : Shared} {l : Addr} {its : List Value} {ns : List Int} {Q : Value → Shared → Prop}
theorem tup_fp (hT : s.heap.IsTuple l its.toArray) {o : Obj} : ∀ c ∈ [s.heap.objs.size, l], c < (s.heap.push o).objs.size := fun c hc => by
  have hlt : l < s.heap.objs.size := by obtain ⟨_, e, _⟩ := hT; exact Heap.lt_size e
  rw [Heap.size_push]
  rcases List.mem_cons.mp hc with rfl | hc
  · exact Nat.lt_succ_self _
  · rcases List.mem_cons.mp hc with rfl | hc
    · exact Nat.lt_succ_of_lt hlt
    · cases hc
theorem max_tupG (hh : A.handled = none) (hT : s.heap.IsTuple l its.toArray) (hi : IntsAre its ns) (hne : 0 < ns.length)
    (h : ∀ h' tk m t', (∀ b o, s.heap.get? b = some o → h'.get? b = some o) → m ∈ ns → (∀ a, a ∈ ns → a ≤ m) → Q (.int m t') { s with heap := h', toks := tk }) : wpAny (model prog w) A (call (.builtin "max") [.ref l]) Q E s := by
  have hlt : l < s.heap.objs.size := by obtain ⟨_, e, _⟩ := hT; exact Heap.lt_size e
  have fp := fun (o : Obj) => tup_fp (o := o) hT
  obtain ⟨xs, e⟩ := hi.allInts.items
  have hn : numsOf (intItems xs).toList = ns := by rw [← e]; exact hi.numsOf
  rw [nums_intItems] at hn
  subst hn
  rw [e] at hT
  have hsz : 0 < xs.size := by simpa using hne
  refine call_max_walk (wpAny_pyIter_tuple hT ?_)
  refine ⟨_, [_, l], [_], _, _, _, _, rfl, Walks.tuple (A := A.in1) hh _ l (Nat.ne_of_lt hlt) (intItems xs), ⟨⟨_, Heap.get?_push_size _ rfl, rfl, rfl⟩, hT.push _⟩, fp _, by simpa [intItems] using hsz, CmpOf.ints_gt (numAt xs) (fun _ _ => intItems_at), fun v h' tk hP hk => ?_⟩
  obtain ⟨t, rfl⟩ := intItems_at hP
  have hb := argBest_gt (numAt xs) (xs.size - 1)
  obtain ⟨h1, h2⟩ := hb
  have e2 : (intItems xs).size - 1 = xs.size - 1 := by simp [intItems]
  rw [e2]
  have hold : ∀ c o, s.heap.get? c = some o → h'.get? c = some o := fun c o e => by
    refine hk c o (fun hm => ?_) (Heap.get?_push_of_some _ e)
    rcases List.mem_cons.mp hm with e1 | hm
    · exact absurd (e1 ▸ Heap.lt_size e) (Nat.lt_irrefl _)
    · cases hm
  refine h h' tk _ t hold ?_ fun a ha => ?_
  · rw [numAt_eq]; exact PySem.getD_mem (by rw [List.length_map, Array.length_toList]; omega)
  · obtain ⟨j, hj, rfl⟩ := mem_getD ha
    rw [List.length_map, Array.length_toList] at hj
    rw [← numAt_eq]; exact h2 j (by omega)
theorem min_tupG (hh : A.handled = none) (hT : s.heap.IsTuple l its.toArray) (hi : IntsAre its ns) (hne : 0 < ns.length)
    (h : ∀ h' tk m t', (∀ b o, s.heap.get? b = some o → h'.get? b = some o) → m ∈ ns → (∀ a, a ∈ ns → m ≤ a) → Q (.int m t') { s with heap := h', toks := tk }) : wpAny (model prog w) A (call (.builtin "min") [.ref l]) Q E s := by
  have hlt : l < s.heap.objs.size := by obtain ⟨_, e, _⟩ := hT; exact Heap.lt_size e
  have fp := fun (o : Obj) => tup_fp (o := o) hT
  obtain ⟨xs, e⟩ := hi.allInts.items
  have hn : numsOf (intItems xs).toList = ns := by rw [← e]; exact hi.numsOf
  rw [nums_intItems] at hn
  subst hn
  rw [e] at hT
  have hsz : 0 < xs.size := by simpa using hne
  refine call_min_walk (wpAny_pyIter_tuple hT ?_)
  refine ⟨_, [_, l], [_], _, _, _, _, rfl, Walks.tuple (A := A.in1) hh _ l (Nat.ne_of_lt hlt) (intItems xs), ⟨⟨_, Heap.get?_push_size _ rfl, rfl, rfl⟩, hT.push _⟩, fp _, by simpa [intItems] using hsz, CmpOf.ints_lt (numAt xs) (fun _ _ => intItems_at), fun v h' tk hP hk => ?_⟩
  obtain ⟨t, rfl⟩ := intItems_at hP
  have hb := argBest_lt (numAt xs) (xs.size - 1)
  obtain ⟨h1, h2⟩ := hb
  have e2 : (intItems xs).size - 1 = xs.size - 1 := by simp [intItems]
  rw [e2]
  have hold : ∀ c o, s.heap.get? c = some o → h'.get? c = some o := fun c o e => by
    refine hk c o (fun hm => ?_) (Heap.get?_push_of_some _ e)
    rcases List.mem_cons.mp hm with e1 | hm
    · exact absurd (e1 ▸ Heap.lt_size e) (Nat.lt_irrefl _)
    · cases hm
  refine h h' tk _ t hold ?_ fun a ha => ?_
  · rw [numAt_eq]; exact PySem.getD_mem (by rw [List.length_map, Array.length_toList]; omega)
  · obtain ⟨j, hj, rfl⟩ := mem_getD ha
    rw [List.length_map, Array.length_toList] at hj
    rw [← numAt_eq]; exact h2 j (by omega)
theorem sum_tupG (hh : A.handled = none) (hT : s.heap.IsTuple l its.toArray) (hi : IntsAre its ns)
    (h : ∀ h' tk t', (∀ b o, s.heap.get? b = some o → h'.get? b = some o) → Q (.int ns.sum t') { s with heap := h', toks := tk }) : wpAny (model prog w) A (call (.builtin "sum") [.ref l]) Q E s := by
  obtain ⟨xs, e⟩ := hi.allInts.items
  have hn : numsOf (intItems xs).toList = ns := by rw [← e]; exact hi.numsOf
  rw [nums_intItems] at hn
  rw [e] at hT
  refine PySem.W.ktm_sumG hh hT fun h' tk t' hk => ?_
  have := h h' tk t' hk
  rw [preSum_eq, List.take_of_length_le (by simp), hn]; exact this
end
section
variable {X : Cx}
def rMaxA (K : PySem.W.Frag) : List V → Hp → VK → Prop := fun vs H Q => ∃ (a : Addr) (ns : List Int), vs = [V.ref a] ∧ (SqL K H a (ns.map V.int) ∨ SqT K H a (ns.map V.int)) ∧ 0 < ns.length ∧ ∀ m, m ∈ ns → (∀ y, y ∈ ns → y ≤ m) → Q (.int m) H
def rMinA (K : PySem.W.Frag) : List V → Hp → VK → Prop := fun vs H Q => ∃ (a : Addr) (ns : List Int), vs = [V.ref a] ∧ (SqL K H a (ns.map V.int) ∨ SqT K H a (ns.map V.int)) ∧ 0 < ns.length ∧ ∀ m, m ∈ ns → (∀ y, y ∈ ns → m ≤ y) → Q (.int m) H
def rSumA (K : PySem.W.Frag) : List V → Hp → VK → Prop := fun vs H Q => ∃ (a : Addr) (ns : List Int), vs = [V.ref a] ∧ (SqL K H a (ns.map V.int) ∨ SqT K H a (ns.map V.int)) ∧ Q (.int ns.sum) H
theorem cr_maxA (hc : X.calm = true) : CallR X (.builtin "max") (rMaxA X.K) := by
  intro pins s σ H vs us Q I r h
  obtain ⟨a, ns, rfl, hs | hs, hne, q⟩ := h
  · exact cr_max hc pins s σ H _ us Q I r ⟨a, ns, rfl, hs, hne, q⟩
  · obtain ⟨its, rv, hl, _⟩ := I.tuple hs
    rw [Vals.ref1 r]
    exact max_tupG (I.ok.hd hc) hl rv.ints hne fun h' tk m t' hk h1 h2 => ⟨.int _, H, I.kept hk, ⟨_, rfl⟩, q m h1 h2⟩
theorem cr_minA (hc : X.calm = true) : CallR X (.builtin "min") (rMinA X.K) := by
  intro pins s σ H vs us Q I r h
  obtain ⟨a, ns, rfl, hs | hs, hne, q⟩ := h
  · exact cr_min hc pins s σ H _ us Q I r ⟨a, ns, rfl, hs, hne, q⟩
  · obtain ⟨its, rv, hl, _⟩ := I.tuple hs
    rw [Vals.ref1 r]
    exact min_tupG (I.ok.hd hc) hl rv.ints hne fun h' tk m t' hk h1 h2 => ⟨.int _, H, I.kept hk, ⟨_, rfl⟩, q m h1 h2⟩
theorem cr_sumA (hc : X.calm = true) : CallR X (.builtin "sum") (rSumA X.K) := by
  intro pins s σ H vs us Q I r h
  obtain ⟨a, ns, rfl, hs | hs, q⟩ := h
  · exact cr_sum hc pins s σ H _ us Q I r ⟨a, ns, rfl, hs, q⟩
  · obtain ⟨its, rv, hl, _⟩ := I.tuple hs
    rw [Vals.ref1 r]
    exact sum_tupG (I.ok.hd hc) hl rv.ints fun h' tk t' hk => ⟨.int _, H, I.kept hk, ⟨_, rfl⟩, q⟩
/-- the greatest and the least of some numbers -/
def mxI : List Int → Int
  | [] => 0
  | [x] => x
  | x :: y :: xs => max x (mxI (y :: xs))
def mnI : List Int → Int
  | [] => 0
  | [x] => x
  | x :: y :: xs => min x (mnI (y :: xs))
theorem mxI_spec : ∀ (l : List Int), l ≠ [] → mxI l ∈ l ∧ ∀ a ∈ l, a ≤ mxI l
  | [], h => absurd rfl h
  | [x], _ => by simp [mxI]
  | x :: y :: xs, _ => by
    obtain ⟨h1, h2⟩ := mxI_spec (y :: xs) (by simp)
    have hm : mxI (x :: y :: xs) = max x (mxI (y :: xs)) := rfl
    rw [hm]
    refine ⟨?_, fun a ha => ?_⟩
    · rcases Int.le_total x (mxI (y :: xs)) with h | h
      · rw [Int.max_eq_right h]; exact List.mem_cons_of_mem _ h1
      · rw [Int.max_eq_left h]; exact List.mem_cons_self
    · rcases List.mem_cons.mp ha with rfl | ha
      · omega
      · have := h2 a ha; omega
theorem mnI_spec : ∀ (l : List Int), l ≠ [] → mnI l ∈ l ∧ ∀ a ∈ l, mnI l ≤ a
  | [], h => absurd rfl h
  | [x], _ => by simp [mnI]
  | x :: y :: xs, _ => by
    obtain ⟨h1, h2⟩ := mnI_spec (y :: xs) (by simp)
    have hm : mnI (x :: y :: xs) = min x (mnI (y :: xs)) := rfl
    rw [hm]
    refine ⟨?_, fun a ha => ?_⟩
    · rcases Int.le_total x (mnI (y :: xs)) with h | h
      · rw [Int.min_eq_left h]; exact List.mem_cons_self
      · rw [Int.min_eq_right h]; exact List.mem_cons_of_mem _ h1
    · rcases List.mem_cons.mp ha with rfl | ha
      · omega
      · have := h2 a ha; omega
def bMaxS : List D → Option D
  | [d] => (d.items.bind intL).bind fun ns => if ns.isEmpty = true then none else some (.int (mxI ns))
  | _ => none
def bMinS : List D → Option D
  | [d] => (d.items.bind intL).bind fun ns => if ns.isEmpty = true then none else some (.int (mnI ns))
  | _ => none
def bSumS : List D → Option D
  | [d] => (d.items.bind intL).map fun ns => .int ns.sum
  | _ => none
theorem itemsI {S : Sr} {H : Hp} {x : V} {a : D} {L : List Addr} {ns : List Int} {K : PySem.W.Frag} (r : Rp S H x a L) (e : a.items.bind intL = some ns) : ∃ p, x = .ref p ∧ (SqL K H p (ns.map V.int) ∨ SqT K H p (ns.map V.int)) := by
  obtain ⟨ys, e1, e2⟩ := Option.bind_eq_some_iff.mp e
  obtain ⟨p, vs, L', rfl, ho, rs'⟩ := r.items e1
  have := rs'.intL e2
  subst this
  exact ⟨p, rfl, ho.elim (fun z => .inl (.inl z)) fun z => .inr (.inl z)⟩
theorem b_maxS (hc : X.calm = true) : CallR X (.builtin "max") (rDs bMaxS) := (cr_maxA hc).imp fun x H Q ⟨S, ds, d, La, hn, rs, e, q⟩ => by
  match ds, e with
  | [a], e =>
    obtain ⟨v, rfl, r⟩ := rs.i1
    obtain ⟨ns, e1, e2⟩ := Option.bind_eq_some_iff.mp (show ((a.items.bind intL).bind fun ns => if ns.isEmpty = true then none else some (D.int (mxI ns))) = some d from e)
    obtain ⟨p, rfl, h⟩ := itemsI (K := X.K) r e1
    by_cases hz : ns.isEmpty = true
    · rw [if_pos hz] at e2; cases e2
    · rw [if_neg hz] at e2
      cases e2
      have hne : ns ≠ [] := fun z => hz (by rw [z]; rfl)
      obtain ⟨m1, m2⟩ := mxI_spec ns hne
      refine ⟨p, ns, rfl, h, List.length_pos_iff.mpr hne, fun m h1 h2 => ?_⟩
      have : m = mxI ns := by
        have := m2 m h1
        have := h2 _ m1
        omega
      subst this
      exact q _ _ _ HE.refl (.int _)
theorem b_minS (hc : X.calm = true) : CallR X (.builtin "min") (rDs bMinS) := (cr_minA hc).imp fun x H Q ⟨S, ds, d, La, hn, rs, e, q⟩ => by
  match ds, e with
  | [a], e =>
    obtain ⟨v, rfl, r⟩ := rs.i1
    obtain ⟨ns, e1, e2⟩ := Option.bind_eq_some_iff.mp (show ((a.items.bind intL).bind fun ns => if ns.isEmpty = true then none else some (D.int (mnI ns))) = some d from e)
    obtain ⟨p, rfl, h⟩ := itemsI (K := X.K) r e1
    by_cases hz : ns.isEmpty = true
    · rw [if_pos hz] at e2; cases e2
    · rw [if_neg hz] at e2
      cases e2
      have hne : ns ≠ [] := fun z => hz (by rw [z]; rfl)
      obtain ⟨m1, m2⟩ := mnI_spec ns hne
      refine ⟨p, ns, rfl, h, List.length_pos_iff.mpr hne, fun m h1 h2 => ?_⟩
      have : m = mnI ns := by
        have := m2 m h1
        have := h2 _ m1
        omega
      subst this
      exact q _ _ _ HE.refl (.int _)
theorem b_sumS (hc : X.calm = true) : CallR X (.builtin "sum") (rDs bSumS) := (cr_sumA hc).imp fun x H Q ⟨S, ds, d, La, hn, rs, e, q⟩ => by
  match ds, e with
  | [a], e =>
    obtain ⟨v, rfl, r⟩ := rs.i1
    obtain ⟨ns, e1, e2⟩ := Option.map_eq_some_iff.mp (show ((a.items.bind intL).map fun ns => D.int ns.sum) = some d from e)
    subst e2
    obtain ⟨p, rfl, h⟩ := itemsI (K := X.K) r e1
    exact ⟨p, ns, rfl, h, q _ _ _ HE.refl (.int _)⟩
end
end DL
set_option Elab.async false
set_option linter.all false
set_option maxRecDepth 100000
set_option maxHeartbeats 4000000
/-! DLA: writing into lists that stand in an own list. -/
namespace DL
open PySem PySem.Spec PyProof.Rows L2

section
variable {S : Sr} {W : Addr → Prop} {H0 H H' : Hp} {σ : L2.St} {δ : Ev}
/-- a list of a slot's own things is written -/
theorem RS.wrT {i : Nat} {d0 d1 : D} {b : Addr} {us us' : List V} {v : V} {L L' : List Addr} (r : RS S W H0 H σ δ) (hi : δ[i]? = some (.ow d0)) (hv : σ[i]? = some (some v)) (rp0 : Rp S H v d0 L) (hb : b ∈ L) (hH : H b = some (.lst us))
    (hn : Rp S (upd H b (.lst us')) v d1 L') (nd : L'.Nodup) (sub : ∀ c ∈ L', c ∈ L) : RS S W H0 (upd H b (.lst us')) σ (δ.set i (.ow d1)) := by
  obtain ⟨Λ, h, h2⟩ := r.sl
  obtain ⟨v', e1, rp⟩ := h i _ (gt_ow hi)
  rw [hv] at e1
  cases e1
  have eL := rp.uniq rp0
  obtain ⟨ndi, hw⟩ := h2 i _ hi
  rw [eL] at ndi hw
  have wb : W b := (hw b hb).1
  have ilt : i < δ.length := gt_lt (gt_ow hi)
  refine ⟨by simp [r.len], r.he.trans (HE.write hH wb), r.wA, r.wn, upN Λ i L', fun j d e => ?_, fun j d e => ?_⟩
  · rw [gt_set] at e
    by_cases hij : i = j
    · subst hij
      rw [if_pos rfl, if_pos ilt] at e
      cases e
      rw [upN_same]
      exact ⟨_, hv, hn⟩
    · rw [if_neg hij] at e
      rw [upN_ne (Ne.symm hij)]
      obtain ⟨w, e1, e2⟩ := h j d e
      exact ⟨w, e1, e2.ext (HE.writeN hH) fun c hc z => (hw b hb).2 j d (Ne.symm hij) e (z ▸ hc)⟩
  · rcases set_ow e with ⟨rfl, es⟩ | ⟨hj, e⟩
    · rw [upN_same]
      refine ⟨nd, fun c hc => ⟨(hw c (sub c hc)).1, fun k e' hk hg => ?_⟩⟩
      rw [upN_ne hk]
      rw [gt_set, if_neg (Ne.symm hk)] at hg
      exact (hw c (sub c hc)).2 k e' hk hg
    · rw [upN_ne hj]
      obtain ⟨n, w⟩ := h2 j d e
      refine ⟨n, fun c hc => ⟨(w c hc).1, fun k e' hk hg => ?_⟩⟩
      by_cases hki : k = i
      · subst hki
        rw [upN_same]
        intro z
        have := sub c z
        rw [← eL] at this
        exact (w c hc).2 k _ hk (gt_ow hi) this
      · rw [upN_ne hki]
        rw [gt_set, if_neg (Ne.symm hki)] at hg
        exact (w c hc).2 k e' hk hg
/-- the j-th of some things is a list: it is written, the others stay -/
theorem Rps.setIn {es es' : List D} {us us' : List V} {b : Addr} : ∀ {vs : List V} {ds : List D} {L : List Addr} (j : Nat), Rps S H vs ds L → L.Nodup → ds[j]? = some (.lst es) → vs[j]? = some (.ref b) → H b = some (.lst us) →
    Rps S (upd H b (.lst us')) us' es' [] → lfs es = true → Rps S (upd H b (.lst us')) vs (ds.set j (.lst es')) L
  | v :: vs, d :: ds, L, 0, r, nd, hd, hv, hH, hn, hl => by
    cases hd
    cases hv
    cases r with
    | @cons _ _ _ _ L1 L2 r rs =>
      cases r with
      | lst h n rs' =>
        have hL := rs'.nils hl
        subst hL
        have nd' := List.nodup_cons.mp (show (b :: L2).Nodup from nd)
        rw [List.set_cons_zero]
        exact .cons (L := [b]) (.lst upd_same n hn) (rs.ext (HE.writeN hH) fun c hc z => nd'.1 (z ▸ hc))
  | v :: vs, d :: ds, L, j + 1, r, nd, hd, hv, hH, hn, hl => by
    cases r with
    | @cons _ _ _ _ L1 L2 r rs =>
      have nd' := List.nodup_append.mp nd
      have hb : b ∈ L2 := by
        obtain ⟨w, L3, q1, q2, q3⟩ := rs.get (show ds[j]? = some (.lst es) from hd)
        rw [show vs[j]? = some (.ref b) from hv] at q1
        cases q1
        cases q2 with
        | lst h n rs' => exact q3 b List.mem_cons_self
      rw [List.set_cons_succ]
      exact .cons (r.ext (HE.writeN hH) fun c hc z => nd'.2.2 c hc b hb z) (rs.setIn j nd'.2.1 hd hv hH hn hl)
  | [], [], _, _, _, _, hd, _, _, _, _ => by simp at hd
  | [], _ :: _, _, _, r, _, _, _, _, _, _ => by cases r
  | _ :: _, [], _, _, r, _, _, _, _, _, _ => by cases r
end
/-- x[k][l] = e, x a list of lists -/
def sSub2 (i : Nat) (fk fl f : FE) : FS := fun δ => (f δ).bd fun d => (fk δ).bd fun k => (fl δ).bd fun l => match δ[i]?, k, l with
  | some (.ow (.lst ds)), .int n, .int m => M.of ((ixN ds.length n).bind fun j => match ds[j]? with
    | some (.lst es) => if d.lf = true ∧ lfs es = true then (ixN es.length m).map fun j2 => Out.nx (δ.set i (.ow (.lst (ds.set j (.lst (es.set j2 d)))))) else none
    | _ => none)
  | _, _, _ => M.no
section
variable {X : Cx}
theorem ds_sub2 {i : Nat} {x : Str} {k l e : Expr} {fk fl f : FE} {p ipos spos : Pos} (hi : X.N[i]? = some x) (hv : Vis X.env.scope x) (hk : DE X k fk) (hl : DE X l fl) (he : DE X e f) (hp : PlainIx k := by intro _ _; rfl)
    (ha : ∀ v, assign (.Subscript (.Subscript (.Name x p) k ipos) l spos) X.env v = (do
      let ov ← holding [v] (eval (.Subscript (.Name x p) k ipos) X.env)
      let iv ← holding [v, ov] (eval l X.env)
      standAt spos
      holding [v, ov, iv] (setItem ov iv v)
      release [v, ov, iv] []) := by intro _; rfl)
    (hs : swapsWithSole [.Subscript (.Subscript (.Name x p) k ipos) l spos] e pos.line X.env = pure false := by rfl) (hw : swappedStores [.Subscript (.Subscript (.Name x p) k ipos) l spos] e X.env = pure none := by rfl)
    (h1 : (assignEach [.Subscript (.Subscript (.Name x p) k ipos) l spos] X.env).map (·.2) = [assign (.Subscript (.Subscript (.Name x p) k ipos) l spos) X.env] := by rfl)
    (hd : (x == ("__debug__" : Str)) = false := by decide) (hcd : (x == ("__classdict__" : Str)) = false := by decide) : DS X (.Assign [.Subscript (.Subscript (.Name x p) k ipos) l spos] e pos) (sSub2 i fk fl f) :=
  (ps_asg he (pg_sub (pe_ix ix_list (pe_var hi hv hd hcd) hk hp) hl set_list ha) hs hw h1).imp fun σ H Q ⟨S, W, H0, δ, st, o, st', rs, so, e, q⟩ => by
  obtain ⟨d, s1, ea, e⟩ := bd_inv e
  obtain ⟨kd, s2, eb, e⟩ := bd_inv e
  obtain ⟨ld, s3, ec, e⟩ := bd_inv e
  cases ei : δ[i]? with
  | none => rw [ei] at e; cases e
  | some sl =>
    rw [ei] at e
    match sl, kd, ld, e with
    | .ow (.lst ds), .int n, .int m, e =>
      obtain ⟨e1, e2⟩ := of_inv e
      clear e
      subst e2
      obtain ⟨j, e3, e4⟩ := Option.bind_eq_some_iff.mp e1
      clear e1
      cases ej : ds[j]? with
      | none => rw [ej] at e4; cases e4
      | some dj =>
        rw [ej] at e4
        match dj, e4 with
        | .lst es, e4 =>
          have e4 : (if d.lf = true ∧ lfs es = true then (ixN es.length m).map fun j2 => Out.nx (δ.set i (.ow (.lst (ds.set j (.lst (es.set j2 d)))))) else none) = some o := e4
          by_cases hl : d.lf = true ∧ lfs es = true
          · rw [if_pos hl] at e4
            obtain ⟨j2, e5, e6⟩ := Option.map_eq_some_iff.mp e4
            subst e6
            refine ⟨S, δ, st, d, s1, rs.rs, so, ea, fun v H1 L1 x1 so1 r1 => ?_⟩
            have hL := r1.nil hl.1
            subst hL
            obtain ⟨a, vs, L, hσ, hH, nh, rr, nd⟩ := (rs.ext x1).own ei
            refine ⟨.ref a, hσ, S, δ, s1, _, _, (rs.ext x1).rs, so1, eb, fun w H2 L2' x2 so2 r2 => ?_⟩
            obtain ⟨rfl, rfl⟩ := r2.iint
            have hH2 : H2 a = some (.lst vs) := x2.lst _ _ (fun z => nh (z ▸ S.hA)) hH
            have rr2 := rr.extS x2
            obtain ⟨u, L3, hu, ru, hL3⟩ := rr2.get ej
            obtain ⟨b, ws, L4, rfl, hb, nb, rb, rfl⟩ := ru.ilst
            have hL4 := rb.nils hl.2
            subst hL4
            have bL : b ∈ L := hL3 b List.mem_cons_self
            refine ⟨a, vs, n, .ref b, rfl, rfl, .inl (.inl hH2), ?_, S, δ, s2, _, _, (rs.ext (x1.trans x2)).rs, so2, ec, fun w2 H3 L5 x3 so3 r3 => ?_⟩
            · show (ixN vs.length n).bind (fun j => vs[j]?) = _
              rw [rr2.len, e3]; exact hu
            obtain ⟨rfl, rfl⟩ := r3.iint
            have hH3 : H3 a = some (.lst vs) := x3.lst _ _ (fun z => nh (z ▸ S.hA)) hH2
            have hb3 : H3 b = some (.lst ws) := x3.lst _ _ (fun z => nb (z ▸ S.hA)) hb
            have rr3 := rr2.extS x3
            have rb3 := rb.extS x3
            have r13 := (r1.extS x2).extS x3
            refine ⟨b, ws, m, j2, rfl, rfl, hb3, by rw [rb.len]; exact e5, ?_⟩
            have nd' := List.nodup_cons.mp nd
            have hab : a ≠ b := fun z => nd'.1 (z ▸ bL)
            have rn : Rps S (upd H3 b (.lst (ws.set j2 v))) (ws.set j2 v) (es.set j2 d) [] := (Rps.set r13 j2 rb3).ext (HE.writeN hb3) fun _ z => nomatch z
            have rt := rr3.setIn (us' := ws.set j2 v) (es' := es.set j2 d) j nd'.2 ej hu hb3 rn hl.2
            exact q σ _ ((rs.ext ((x1.trans x2).trans x3)).wrT ei hσ (.lst hH3 nh rr3) (List.mem_cons_of_mem _ bL) hb3 (.lst (by rw [upd_ne hab]; exact hH3) nh rt) nd (fun c hc => hc)) (so3.wr nb)
          · rw [if_neg hl] at e4; cases e4
        | .non, e4 => cases e4
        | .bl _, e4 => cases e4
        | .int _, e4 => cases e4
        | .str _, e4 => cases e4
        | .tup _, e4 => cases e4
        | .src, e4 => cases e4
        | .dct _, e4 => cases e4
        | .tupk _, e4 => cases e4
end
end DL
set_option Elab.async false
set_option linter.all false
set_option maxRecDepth 100000
set_option maxHeartbeats 4000000
/-! DLB: x in l for things of any depth. -/
namespace DL
open PySem PySem.Spec PyProof.Rows L2

def dInD (a b : D) : Option D := b.items.bind fun xs => if (dOk 8 a && xs.all (dOk 8)) = true then some (.bl (xs.any fun y => y.eqv a)) else none
def dNotInD (a b : D) : Option D := b.items.bind fun xs => if (dOk 8 a && xs.all (dOk 8)) = true then some (.bl (!xs.any fun y => y.eqv a)) else none
theorem pys_any {x : D} : ∀ (ds : List D), ((pys ds).any fun y => PyData.eqv y x.py) = ds.any fun y => y.eqv x
  | [] => rfl
  | d :: ds => by
    rw [pys, List.any_cons, List.any_cons, pys_any ds]
    rfl
section
variable {X : Cx}
theorem o_inD (hu : X.A.units + 64 < cLine) : OpR X (compareOp .In) (rD2 dInD) := by
  intro pins s σ H x y v u Q I rx ry ⟨S, a, b, d, La, Lb, hn, ra, rb, e, q⟩
  obtain ⟨ds, e1, e2⟩ := Option.bind_eq_some_iff.mp (show (b.items.bind fun xs => if (dOk 8 a && xs.all (dOk 8)) = true then some (D.bl (xs.any fun y => y.eqv a)) else none) = some d from e)
  by_cases hk : (dOk 8 a && ds.all (dOk 8)) = true
  · rw [if_pos hk] at e2
    cases e2
    rw [Bool.and_eq_true] at hk
    obtain ⟨h2, h1⟩ := hk
    have h1' := List.all_eq_true.mp h1
    obtain ⟨p, vs, L', rfl, ho, rr⟩ := rb.items e1
    obtain ⟨bs, q2⟩ := Dp.reads (X := X) I a.py x v (ra.dp 8 h2) rx
    cases ry
    have hdep := pys_depth h1'
    have q' := q (.bl ((pys ds).any fun y => PyData.eqv y a.py)) H [] HE.refl (by rw [pys_any]; exact .bl _)
    have hz : ∃ its : List Value, Vals vs its ∧ (s.heap.IsList p its.toArray ∨ s.heap.IsTuple p its.toArray) := by
      rcases ho with ho | ho
      · obtain ⟨its, rv, hl, _⟩ := I.list (.inl ho : SqL X.K H p vs)
        exact ⟨its, rv, .inl hl.isList⟩
      · obtain ⟨its, rv, ht, _⟩ := I.tuple (.inl ho : SqT X.K H p vs)
        exact ⟨its, rv, .inr ht⟩
    obtain ⟨its, rv, hl⟩ := hz
    obtain ⟨as, q1⟩ := Dp.readsAll (X := X) I (pys ds) vs its (rr.dp 8 h1') rv
    have ip : ∀ y, y ∈ its.toArray → SeqAt.EqAt X.A.in1 s y v (PyData.eqv (SeqAt.readOf s.heap y) a.py) := SeqAt.items_plain (A := X.A) (vs := its.toArray) (by simpa using q1) q2 (pys_plain h1') (PyData.plain_of_canLay0 _ (dOk_ok 8 a h2).1) (by omega)
    have ap := SeqAt.any_plain (s := s) (vs := its.toArray) (xs := pys ds) (as := as) (d := a.py) (by simpa using q1) (pys_plain h1')
    rcases hl with hl | hl
    · exact PySem.SeqAt.in_listAt (fun y => PyData.eqv (SeqAt.readOf s.heap y) a.py) hl ip (by rw [ap]; exact ⟨.bl _, H, I, rfl, q'⟩)
    · exact PySem.SeqAt.in_tupleAt (fun y => PyData.eqv (SeqAt.readOf s.heap y) a.py) hl ip (by rw [ap]; exact ⟨.bl _, H, I, rfl, q'⟩)
  · rw [if_neg hk] at e2; cases e2
theorem o_notInD (hu : X.A.units + 64 < cLine) : OpR X (compareOp .NotIn) (rD2 dNotInD) := by
  intro pins s σ H x y v u Q I rx ry ⟨S, a, b, d, La, Lb, hn, ra, rb, e, q⟩
  obtain ⟨ds, e1, e2⟩ := Option.bind_eq_some_iff.mp (show (b.items.bind fun xs => if (dOk 8 a && xs.all (dOk 8)) = true then some (D.bl (!xs.any fun y => y.eqv a)) else none) = some d from e)
  by_cases hk : (dOk 8 a && ds.all (dOk 8)) = true
  · rw [if_pos hk] at e2
    cases e2
    rw [Bool.and_eq_true] at hk
    obtain ⟨h2, h1⟩ := hk
    have h1' := List.all_eq_true.mp h1
    obtain ⟨p, vs, L', rfl, ho, rr⟩ := rb.items e1
    obtain ⟨bs, q2⟩ := Dp.reads (X := X) I a.py x v (ra.dp 8 h2) rx
    cases ry
    have hdep := pys_depth h1'
    have q' := q (.bl (!(pys ds).any fun y => PyData.eqv y a.py)) H [] HE.refl (by rw [pys_any]; exact .bl _)
    have hz : ∃ its : List Value, Vals vs its ∧ (s.heap.IsList p its.toArray ∨ s.heap.IsTuple p its.toArray) := by
      rcases ho with ho | ho
      · obtain ⟨its, rv, hl, _⟩ := I.list (.inl ho : SqL X.K H p vs)
        exact ⟨its, rv, .inl hl.isList⟩
      · obtain ⟨its, rv, ht, _⟩ := I.tuple (.inl ho : SqT X.K H p vs)
        exact ⟨its, rv, .inr ht⟩
    obtain ⟨its, rv, hl⟩ := hz
    obtain ⟨as, q1⟩ := Dp.readsAll (X := X) I (pys ds) vs its (rr.dp 8 h1') rv
    have ip : ∀ y, y ∈ its.toArray → SeqAt.EqAt X.A.in1 s y v (PyData.eqv (SeqAt.readOf s.heap y) a.py) := SeqAt.items_plain (A := X.A) (vs := its.toArray) (by simpa using q1) q2 (pys_plain h1') (PyData.plain_of_canLay0 _ (dOk_ok 8 a h2).1) (by omega)
    have ap := SeqAt.any_plain (s := s) (vs := its.toArray) (xs := pys ds) (as := as) (d := a.py) (by simpa using q1) (pys_plain h1')
    rcases hl with hl | hl
    · exact PySem.SeqAt.notIn_listAt (fun y => PyData.eqv (SeqAt.readOf s.heap y) a.py) hl ip (by rw [ap]; exact ⟨.bl _, H, I, rfl, q'⟩)
    · exact PySem.SeqAt.notIn_tupleAt (fun y => PyData.eqv (SeqAt.readOf s.heap y) a.py) hl ip (by rw [ap]; exact ⟨.bl _, H, I, rfl, q'⟩)
  · rw [if_neg hk] at e2; cases e2
end
end DL
set_option Elab.async false
set_option linter.all false
set_option maxRecDepth 100000
set_option maxHeartbeats 4000000
/-! DLC: comprehensions with two loops as new lists. -/
namespace DL
open PySem PySem.Spec PyProof.Rows L2
theorem tLc2F_imp {h h1 : FI} {vs vs1 : List Nat} {g g1 : D → Ev → Option Ev} {tt tt1 : Ev → M Bool} {te : FE} : ∀ σ H Q, tF (eLc2 h vs g tt h1 vs1 g1 tt1 te) σ H Q → tLc2 (tI h) (tGd vs g) (tBo tt) (tI h1) (tGd vs1 g1) (tBo tt1) (tF te) vs vs1 σ H Q := fun σ H Q ⟨S, δ, st, d, st', rs, so, e, q⟩ => by
  obtain ⟨ds, s1, eh, e⟩ := bd_inv e
  by_cases hz : ds.length ≤ 1000
  rotate_left
  · rw [if_neg hz] at e; cases e
  rw [if_pos hz] at e
  obtain ⟨all, s2, ec, e⟩ := bd_inv e
  obtain ⟨e1, e2⟩ := ret_inv e
  subst e1 e2
  refine ⟨S, δ, st, ds, s1, rs, so, eh, fun J H1 La x1 so1 wk Dl nD => ?_⟩
  have nA : Dl ≠ S.dA := fun z => so1.tr _ S.hA (z ▸ nD)
  have nq : Dl ≠ S.q := fun z => so1.tr _ S.hQ (z ▸ nD)
  have rs1 : Rs (S.hide Dl) H1 σ δ := (rs.extS x1).hide fun xs z => by rw [nD] at z; cases z
  have laA : ∀ b, b = S.dA → b ∉ La := fun b e hb => (wk.la b hb).1 (e ▸ S.hA)
  refine ⟨fun i m H => m = ds.length - i ∧ i ≤ ds.length ∧ ∃ acc accD L sti ys, H Dl = some (.lst acc) ∧ Rps (S.hide Dl) H acc accD L ∧ L.Nodup ∧ (∀ a ∈ L, H1 a = none) ∧ acc.length ≤ i * 1000 ∧ Ext S H1 H ∧ SrcOk (S.hide Dl) H sti ∧ cLp2 vs g tt (inLc h1 vs1 g1 tt1 te) δ (ds.drop i) sti = some (ys, st') ∧ accD ++ ys = all, ⟨ds.length, rfl, Nat.zero_le _, [], [], [], s1, all, upd_same, .nil, List.nodup_nil, (fun _ z => nomatch z), Nat.zero_le _, HE.refl.out nD, (so1.ext0 (HE.fresh nD)).hide (by rw [upd_same]; exact fun z => nomatch z), ec, rfl⟩, ?_⟩
  rintro i m H2 ⟨rfl, hi, acc, accD, L, sti, ys, hD, ra, nL, fL, hl, x2, so2, ec2, eall⟩
  have x2' : HE (fun b => b ∉ La) H1 H2 := x2.mono laA
  by_cases hlt : i < ds.length
  · refine .inr ⟨wk.go i H2 x2' hlt, fun H' => (fun i m H => m = ds.length - i ∧ i ≤ ds.length ∧ ∃ acc accD L sti ys, H Dl = some (.lst acc) ∧ Rps (S.hide Dl) H acc accD L ∧ L.Nodup ∧ (∀ a ∈ L, H1 a = none) ∧ acc.length ≤ i * 1000 ∧ Ext S H1 H ∧ SrcOk (S.hide Dl) H sti ∧ cLp2 vs g tt (inLc h1 vs1 g1 tt1 te) δ (ds.drop i) sti = some (ys, st') ∧ accD ++ ys = all) (i + 1) (ds.length - (i + 1)) H', fun H' hN => ⟨ds.length - (i + 1), by omega, hN⟩, fun x H3 y => ?_⟩
    obtain ⟨d, Ld, hd, x3, rd, hLd⟩ := wk.yld i H2 x H3 x2' so2.show'.tr hlt y
    have hdrop : ds.drop i = d :: ds.drop (i + 1) := by
      have e1 := List.drop_eq_getElem_cons hlt
      have e2 : ds[i] = d := by
        have := List.getElem?_eq_getElem hlt
        rw [this] at hd
        exact Option.some.inj hd
      rw [e1, e2]
    rw [hdrop, cLp2] at ec2
    obtain ⟨δ1, t1, eg0, ec3⟩ := bd_inv ec2
    obtain ⟨eg, et⟩ := of_inv eg0
    clear eg0 ec2
    subst et
    obtain ⟨b, t2, eb, ec2⟩ := bd_inv ec3
    clear ec3
    have x13 : Ext S H1 H3 := x2.trans x3.up0
    have so3 : SrcOk (S.hide Dl) H3 t1 := so2.ext0 x3
    have hD3 : H3 Dl = some (.lst acc) := x3.lst _ _ (fun z => z) hD
    refine ⟨S.hide Dl, wipeE δ vs, d, Ld, δ1, (rs1.extS (S := S.hide Dl) x13).wipe vs, rd.hide fun a ha z => ?_, eg, fun σ2 o2 l2 rs2 => ⟨wipe_eq o2 l2, S.hide Dl, δ1, t1, b, t2, rs2, so3, eb, fun H4 x4 so4 => ?_⟩⟩
    · obtain ⟨_, xs, w⟩ := wk.la a (hLd a ha)
      rw [z, nD] at w
      cases w
    have hD4 : H4 Dl = some (.lst acc) := x4.lst _ _ nA hD3
    have ra4 : Rps (S.hide Dl) H4 acc accD L := (ra.ext0 x3).extS x4
    have x14 : Ext S H1 H4 := x13.trans x4
    cases b with
    | false =>
      rw [if_neg Bool.false_ne_true] at ec2
      refine iteF ?_
      exact ⟨rfl, hlt, acc, accD, L, t2, ys, hD4, ra4, nL, fL, by omega, x14, so4, ec2, eall⟩
    | true =>
      rw [if_pos rfl] at ec2
      refine iteT ?_
      obtain ⟨iy, t3, ei, ec4⟩ := bd_inv ec2
      obtain ⟨zs, t4, er, ec5⟩ := bd_inv ec4
      obtain ⟨e1, e2⟩ := ret_inv ec5
      clear ec2 ec4 ec5
      subst e1 e2
      obtain ⟨ds1, u1, eh1, ei⟩ := bd_inv ei
      by_cases hz1 : ds1.length ≤ 1000
      rotate_left
      · rw [if_neg hz1] at ei; cases ei
      rw [if_pos hz1] at ei
      refine ⟨S.hide Dl, δ1, t2, ds1, u1, rs2.extS x4, so4, eh1, fun J1 H5 La1 x5 so5 wk1 => ?_⟩
      have hD5 : H5 Dl = some (.lst acc) := x5.lst _ _ nA hD4
      have ra5 : Rps (S.hide Dl) H5 acc accD L := ra4.extS x5
      have x15 : Ext S H1 H5 := x14.trans x5
      have rs5 : Rs (S.hide Dl) H5 σ2 δ1 := (rs2.extS x4).extS x5
      have laA1 : ∀ b, (b = S.dA ∨ b = Dl) → b ∉ La1 := fun b e hb => (wk1.la b hb).1 (e.elim (fun z => .inl (z ▸ S.hA)) .inr)
      refine ⟨fun j k H => k = ds1.length - j ∧ j ≤ ds1.length ∧ ∃ acc accD L stj yj, H Dl = some (.lst acc) ∧ Rps (S.hide Dl) H acc accD L ∧ L.Nodup ∧ (∀ a ∈ L, H1 a = none) ∧ acc.length ≤ i * 1000 + j ∧ Ext S H1 H ∧ HE (fun b => b = S.dA ∨ b = Dl) H5 H ∧ SrcOk (S.hide Dl) H stj ∧ cLp vs1 g1 tt1 te δ1 (ds1.drop j) stj = some (yj, t3) ∧ accD ++ (yj ++ zs) = all, ⟨ds1.length, rfl, Nat.zero_le _, acc, accD, L, u1, iy, hD5, ra5, nL, fL, hl, x15, HE.refl, so5, ei, eall⟩, ?_⟩
      clear hD5 ra5 hD4 ra4 hD3 hD ra hl nL fL
      rintro j k H6 ⟨rfl, hj, acc, accD, L, stj, yj, hD6, ra6, nL, fL, hl6, x16, x56, so6, ej, eall6⟩
      have x56' : HE (fun b => b ∉ La1) H5 H6 := x56.mono laA1
      by_cases hjt : j < ds1.length
      · refine .inr ⟨wk1.go j H6 x56' hjt, fun H' => (fun j k H => k = ds1.length - j ∧ j ≤ ds1.length ∧ ∃ acc accD L stj yj, H Dl = some (.lst acc) ∧ Rps (S.hide Dl) H acc accD L ∧ L.Nodup ∧ (∀ a ∈ L, H1 a = none) ∧ acc.length ≤ i * 1000 + j ∧ Ext S H1 H ∧ HE (fun b => b = S.dA ∨ b = Dl) H5 H ∧ SrcOk (S.hide Dl) H stj ∧ cLp vs1 g1 tt1 te δ1 (ds1.drop j) stj = some (yj, t3) ∧ accD ++ (yj ++ zs) = all) (j + 1) (ds1.length - (j + 1)) H', fun H' hN => ⟨ds1.length - (j + 1), by omega, hN⟩, fun x' H7 y' => ?_⟩
        obtain ⟨d', Ld', hd', x7, rd', hLd'⟩ := wk1.yld j H6 x' H7 x56' so6.tr hjt y'
        have hdrop1 : ds1.drop j = d' :: ds1.drop (j + 1) := by
          have e1 := List.drop_eq_getElem_cons hjt
          have e2 : ds1[j] = d' := by
            have := List.getElem?_eq_getElem hjt
            rw [this] at hd'
            exact Option.some.inj hd'
          rw [e1, e2]
        rw [hdrop1, cLp] at ej
        obtain ⟨δ2, v1, eg0, ec3⟩ := bd_inv ej
        obtain ⟨eg1, et⟩ := of_inv eg0
        clear eg0 ej
        subst et
        obtain ⟨b', v2, eb', ec2⟩ := bd_inv ec3
        clear ec3
        have x17 : Ext S H1 H7 := x16.trans x7.up0
        have x57 : HE (fun b => b = S.dA ∨ b = Dl) H5 H7 := x56.trans x7.up0
        have so7 : SrcOk (S.hide Dl) H7 v1 := so6.ext0 x7
        have hD7 : H7 Dl = some (.lst acc) := x7.lst _ _ (fun z => z) hD6
        refine ⟨S.hide Dl, wipeE δ1 vs1, d', Ld', δ2, (rs5.extN x57).wipe vs1, rd', eg1, fun σ3 o3 l3 rs3 => ⟨wipe_eq o3 l3, S.hide Dl, δ2, v1, b', v2, rs3, so7, eb', fun H8 x8 so8 => ?_⟩⟩
        have hD8 : H8 Dl = some (.lst acc) := x8.lst _ _ nA hD7
        have ra8 : Rps (S.hide Dl) H8 acc accD L := (ra6.ext0 x7).extS x8
        have x18 : Ext S H1 H8 := x17.trans x8
        have x58 : HE (fun b => b = S.dA ∨ b = Dl) H5 H8 := x57.trans (x8.mono fun _ => .inl)
        cases b' with
        | false =>
          rw [if_neg Bool.false_ne_true] at ec2
          refine iteF ?_
          exact ⟨rfl, hjt, acc, accD, L, v2, yj, hD8, ra8, nL, fL, by omega, x18, x58, so8, ec2, eall6⟩
        | true =>
          rw [if_pos rfl] at ec2
          refine iteT ?_
          obtain ⟨yD, v3, ey, ec4⟩ := bd_inv ec2
          obtain ⟨ys', v4, er', ec5⟩ := bd_inv ec4
          obtain ⟨e1, e2⟩ := ret_inv ec5
          clear ec2 ec4 ec5
          subst e1 e2
          refine ⟨S.hide Dl, δ2, v2, yD, v3, rs3.extS x8, so8, ey, fun v H9 L9 x9 so9 r9 n9 f9 => ?_⟩
          have hD9 : H9 Dl = some (.lst acc) := x9.lst _ _ nA hD8
          have ra9 := (ra8.extS x9).append (Rps.one r9)
          have hsz : acc.length < 1000000 := by
            have h1 : i * 1000 ≤ 999 * 1000 := Nat.mul_le_mul_right _ (by omega)
            omega
          refine ⟨acc, hD9, Nat.lt_of_lt_of_le hsz (size_ok (Nat.le_refl _)), rfl, hjt, acc ++ [v], accD ++ [yD], _, v3, ys', upd_same, ra9.ext (HE.writeN hD9) (fun a ha z => (ra9.ne a ha).1 (.inr z)), ?_, fun a ha => (List.mem_append.mp ha).elim (fL a) fun z => x18.new a (f9 a z), by rw [List.length_append]; exact Nat.succ_le_succ hl6, (x18.trans x9).out nD, (x58.trans (x9.mono fun _ => .inl)).trans ((HE.writeN hD9).mono fun _ => .inr), so9.writeN nA nq, er', by rw [List.append_assoc]; exact eall6⟩
          refine List.nodup_append.mpr ⟨nL, n9, fun a ha b hb z => ?_⟩
          obtain ⟨_, xs, w⟩ := ra8.ne a ha
          rw [z, f9 b hb] at w
          cases w
      · have ed : ds1.drop j = [] := List.drop_eq_nil_of_le (by omega)
        rw [ed, cLp] at ej
        obtain ⟨e1, e2⟩ := ret_inv ej
        subst e1 e2
        refine .inl ⟨wk1.stop j H6 x56' (by omega), rfl, hlt, acc, accD, L, t3, zs, hD6, ra6, nL, fL, by omega, x16, so6, er, eall6⟩
  · have ei : ds.drop i = [] := List.drop_eq_nil_of_le (by omega)
    rw [ei, cLp2] at ec2
    obtain ⟨e1, e2⟩ := ret_inv ec2
    subst e1 e2
    rw [List.append_nil] at eall
    subst eall
    refine .inl ⟨wk.stop i H2 x2' (by omega), q (.ref Dl) H2 (Dl :: L) (x1.trans x2) so2.show' (.lst hD (fun z => so1.tr _ z nD) ra.show') (List.nodup_cons.mpr ⟨fun z => (ra.ne Dl z).1 (.inr rfl), nL⟩) fun a ha => ?_⟩
    rcases List.mem_cons.mp ha with rfl | ha
    · exact x1.new _ nD
    · exact x1.new _ (fL a ha)
theorem dg_sub {X : Cx} {e : Expr} {vs ws : List Nat} {g : D → Ev → Option Ev} (h : ∀ j ∈ vs, j ∈ ws) (p : DG X e vs g) : DG X e ws g := p.imp fun v σ H Q ⟨S, δ, d, L, δ', rs, r, e, q⟩ =>
  ⟨S, δ, d, L, δ', rs, r, e, fun σ' h1 h2 h3 => q σ' (fun j hj => h1 j fun z => hj (h j z)) h2 h3⟩
section
variable {X : Cx}
theorem df_lc2 {elt tg iter tg1 iter1 : Expr} {ifs ifs1 : List Expr} {scope : Scope} {own : List (Str × Nat)} {vs1 : List Nat} {pos : Pos} {h h1 : FI} {g g1 : D → Ev → Option Ev} {tt tt1 : Ev → M Bool} {te : FE} (hc : X.calm = true) (hN : X.N.Nodup) (hi : DI X tg iter h) (ok : BlkOk X.N X.env.scope scope own) (hv : ∀ i ∈ vs1, i ∈ own.map (·.2))
    (hg : ∀ (s : Shared) (H : Hp) (C : Addr) (cl : List (Str × Addr)) (fp : List Addr), DG (X.blk s H scope (compEnvC scope cl C X.env) fp) tg (own.map (·.2)) g) (ht : ∀ (s : Shared) (H : Hp) (C : Addr) (cl : List (Str × Addr)) (fp : List Addr), DTs (X.blk s H scope (compEnvC scope cl C X.env) fp) ifs tt)
    (hi1 : ∀ (s : Shared) (H : Hp) (C : Addr) (cl : List (Str × Addr)) (fp : List Addr), DI (X.blk s H scope (compEnvC scope cl C X.env) fp) tg1 iter1 h1)
    (hg1 : ∀ (s : Shared) (H : Hp) (C : Addr) (cl : List (Str × Addr)) (fp : List Addr), DG (X.blk s H scope (compEnvC scope cl C X.env) fp) tg1 vs1 g1) (ht1 : ∀ (s : Shared) (H : Hp) (C : Addr) (cl : List (Str × Addr)) (fp : List Addr), DTs (X.blk s H scope (compEnvC scope cl C X.env) fp) ifs1 tt1)
    (he : ∀ (s : Shared) (H : Hp) (C : Addr) (cl : List (Str × Addr)) (fp : List Addr), DF (X.blk s H scope (compEnvC scope cl C X.env) fp) elt te) (hs : ∀ x, foldedSetIterable iter X.env x = pure x := by intro _; rfl) (hs1 : ∀ env x, foldedSetIterable iter1 env x = pure x := by intro _ _; rfl) :
    DF X (.ListComp elt [⟨tg, iter, ifs, 0⟩, ⟨tg1, iter1, ifs1, 0⟩] scope pos) (eLc2 h (own.map (·.2)) g tt h1 vs1 g1 tt1 te) := (pe_lc2 hc hN hi ok hv hg ht hi1 hg1 ht1 he hs hs1).imp tLc2F_imp
theorem ds_setLc2 {i : Nat} {y : Str} {py : Pos} {elt tg iter tg1 iter1 : Expr} {ifs ifs1 : List Expr} {scope : Scope} {own : List (Str × Nat)} {vs1 : List Nat} {pos spos : Pos} {h h1 : FI} {g g1 : D → Ev → Option Ev} {tt tt1 : Ev → M Bool} {te : FE} (hc : X.calm = true) (hN : X.N.Nodup) (hy : X.N[i]? = some y) (hyl : X.env.scope.names.lookup y = some .local)
    (hsw : swapsWith (.ListComp elt [⟨tg, iter, ifs, 0⟩, ⟨tg1, iter1, ifs1, 0⟩] scope pos) (some (.Name y py)) spos.line X.env = pure true) (hi : DI X tg iter h) (ok : BlkOk X.N X.env.scope scope own) (hv : ∀ i ∈ vs1, i ∈ own.map (·.2))
    (hg : ∀ (s : Shared) (H : Hp) (C : Addr) (cl : List (Str × Addr)) (fp : List Addr), DG (X.blk s H scope (compEnvC scope cl C X.env) fp) tg (own.map (·.2)) g) (ht : ∀ (s : Shared) (H : Hp) (C : Addr) (cl : List (Str × Addr)) (fp : List Addr), DTs (X.blk s H scope (compEnvC scope cl C X.env) fp) ifs tt)
    (hi1 : ∀ (s : Shared) (H : Hp) (C : Addr) (cl : List (Str × Addr)) (fp : List Addr), DI (X.blk s H scope (compEnvC scope cl C X.env) fp) tg1 iter1 h1)
    (hg1 : ∀ (s : Shared) (H : Hp) (C : Addr) (cl : List (Str × Addr)) (fp : List Addr), DG (X.blk s H scope (compEnvC scope cl C X.env) fp) tg1 vs1 g1) (ht1 : ∀ (s : Shared) (H : Hp) (C : Addr) (cl : List (Str × Addr)) (fp : List Addr), DTs (X.blk s H scope (compEnvC scope cl C X.env) fp) ifs1 tt1)
    (he : ∀ (s : Shared) (H : Hp) (C : Addr) (cl : List (Str × Addr)) (fp : List Addr), DF (X.blk s H scope (compEnvC scope cl C X.env) fp) elt te) (hs : ∀ x, foldedSetIterable iter X.env x = pure x := by intro _; rfl) (hs1 : ∀ env x, foldedSetIterable iter1 env x = pure x := by intro _ _; rfl) :
    DS X (.Assign [.Name y py] (.ListComp elt [⟨tg, iter, ifs, 0⟩, ⟨tg1, iter1, ifs1, 0⟩] scope pos) spos) (sOwn i (eLc2 h (own.map (·.2)) g tt h1 vs1 g1 tt1 te)) := (ps_setLc2 hc hN hy hyl hsw hi ok hv hg ht hi1 hg1 ht1 he hs hs1).imp fun σ H Q w => tLc2F_imp σ H _ (own_imp σ H Q w)
end
end DL
set_option Elab.async false
set_option linter.all false
set_option maxRecDepth 100000
set_option maxHeartbeats 4000000
/-! DSim: the functions over data, reckoned out. -/
namespace DL
open PySem PySem.Spec PyProof.Rows L2

section
variable {α β : Type} {s : Src} {δ : Ev} {f g h : FE} {p q : Ev → M Bool} {i j : Nat} {d : D} {fs : Ev → M (List D)}
@[simp] theorem bd_ap (m : M α) (f : α → M β) : (m.bd f) s = (m s).bind fun p => f p.1 p.2 := by
  show (match m s with | none => none | some (a, s') => f a s') = _
  cases m s <;> rfl
@[simp] theorem ret_ap (a : α) : M.ret a s = some (a, s) := rfl
@[simp] theorem of_some (a : α) : M.of (some a) s = some (a, s) := rfl
@[simp] theorem of_none : M.of (none : Option α) s = none := rfl
@[simp] theorem no_ap : (M.no : M α) s = none := rfl
@[simp] theorem eVar_ap : eVar i δ s = M.of (gt δ i) s := rfl
@[simp] theorem eC_ap : eC d δ s = some (d, s) := rfl
@[simp] theorem e2_ap (o : D → D → Option D) : e2 o f g δ s = (f δ s).bind fun p => (g δ p.2).bind fun q => M.of (o p.1 q.1) q.2 := by simp [e2]
@[simp] theorem e1_ap (o : D → Option D) : e1 o f δ s = (f δ s).bind fun p => M.of (o p.1) p.2 := by simp [e1]
@[simp] theorem eAs0_ap : eAs0 δ s = some ([], s) := rfl
@[simp] theorem eAs_ap : eAs f fs δ s = (f δ s).bind fun p => (fs δ p.2).bind fun q => some (p.1 :: q.1, q.2) := by simp [eAs]
@[simp] theorem eTup_ap : eTup fs δ s = (fs δ s).bind fun p => M.of (if p.1.length ≤ 1000000 then some (.tup p.1) else none) p.2 := by simp [eTup]
@[simp] theorem eLst_ap : eLst fs δ s = (fs δ s).bind fun p => M.of (if p.1.length ≤ 1000000 then some (.lst p.1) else none) p.2 := by simp [eLst]
@[simp] theorem eIf_ap : eIf p f g δ s = (p δ s).bind fun k => if k.1 = true then f δ k.2 else g δ k.2 := by simp only [eIf, bd_ap]; congr; funext k; split <;> rfl
@[simp] theorem bOf_ap : bOf f δ s = (f δ s).bind fun p => M.of (match p.1 with | .bl k => some k | _ => none) p.2 := by
  simp only [bOf, bd_ap] <;> congr
@[simp] theorem bTr_ap : bTr f δ s = (f δ s).bind fun p => M.of (truD p.1) p.2 := by simp [bTr]
@[simp] theorem bAnd_ap : bAnd p q δ s = (p δ s).bind fun k => if k.1 = true then q δ k.2 else some (false, k.2) := by simp only [bAnd, bd_ap]; congr; funext k; split <;> rfl
@[simp] theorem bOr_ap : bOr p q δ s = (p δ s).bind fun k => if k.1 = true then some (true, k.2) else q δ k.2 := by simp only [bOr, bd_ap]; congr; funext k; split <;> rfl
@[simp] theorem bNot_ap : bNot p δ s = (p δ s).bind fun k => some (!k.1, k.2) := by simp [bNot]
@[simp] theorem bYes_ap : bYes δ s = some (true, s) := rfl
@[simp] theorem eAnd_ap : eAnd f g δ s = (f δ s).bind fun p => match p.1 with | .bl true => g δ p.2 | .bl false => some (.bl false, p.2) | _ => none := by
  simp only [eAnd, bd_ap]; congr; funext k; obtain ⟨d, t⟩ := k; cases d <;> first | rfl | (rename_i b; cases b <;> rfl)
@[simp] theorem eOr_ap : eOr f g δ s = (f δ s).bind fun p => match p.1 with | .bl true => some (.bl true, p.2) | .bl false => g δ p.2 | _ => none := by
  simp only [eOr, bd_ap]; congr; funext k; obtain ⟨d, t⟩ := k; cases d <;> first | rfl | (rename_i b; cases b <;> rfl)
@[simp] theorem eNot_ap : eNot f δ s = (f δ s).bind fun p => M.of (match p.1 with | .bl k => some (.bl (!k)) | _ => none) p.2 := by
  simp only [eNot, e1_ap] <;> congr
@[simp] theorem eCall_ap (o : List D → Option D) : eCall o fs δ s = (fs δ s).bind fun p => M.of (o p.1) p.2 := by simp [eCall]
@[simp] theorem eFn_ap (F : List D → M D) : eFn F fs δ s = (fs δ s).bind fun p => F p.1 p.2 := by simp [eFn]
@[simp] theorem eLf_ap : eLf f δ s = (f δ s).bind fun p => M.of (if p.1.lf = true then some p.1 else none) p.2 := by simp [eLf]
@[simp] theorem eRevT_ap : eRevT f δ s = (f δ s).bind fun p => M.of (match p.1 with | .tup xs => some (.tup xs.reverse) | _ => none) p.2 := by
  simp only [eRevT, e1_ap] <;> congr
@[simp] theorem eRevL_ap : eRevL f δ s = (f δ s).bind fun p => M.of (match p.1 with | .lst xs => some (.lst xs.reverse) | _ => none) p.2 := by
  simp only [eRevL, e1_ap] <;> congr
@[simp] theorem eCh_ap (o o' : D → D → Option D) : eCh o o' f g h δ s = (f δ s).bind fun x => (g δ x.2).bind fun y => (M.of (o x.1 y.1) y.2).bind fun z => match z.1 with
  | .bl true => (h δ z.2).bind fun u => M.of (o' y.1 u.1) u.2
  | .bl false => some (.bl false, z.2)
  | _ => none := by
  simp only [eCh, bd_ap]
  congr; funext x; congr; funext y; congr; funext z; obtain ⟨d, t⟩ := z; cases d <;> first | rfl | (rename_i b; cases b <;> first | rfl | (simp only [bd_ap]))
@[simp] theorem iOf_ap (o : List D → Option (List D)) : iOf o fs δ s = (fs δ s).bind fun p => M.of (o p.1) p.2 := by simp [iOf]
@[simp] theorem iSeq_ap : iSeq f δ s = (f δ s).bind fun p => M.of p.1.items p.2 := by simp [iSeq]
@[simp] theorem iSeqT_ap : iSeqT f δ s = (f δ s).bind fun p => M.of (lfT p.1) p.2 := by simp [iSeqT]

@[simp] theorem sNil_ap : sNil δ s = some (.nx δ, s) := rfl
@[simp] theorem sNo_ap : sNo δ s = none := rfl
@[simp] theorem sRet_ap : sRet f δ s = (f δ s).bind fun p => some (.rt p.1, p.2) := by simp [sRet]
@[simp] theorem sExp_ap : sExp f δ s = (f δ s).bind fun p => some (.nx δ, p.2) := by simp [sExp]
@[simp] theorem sSet_ap : sSet i f δ s = (f δ s).bind fun p => if p.1.lf = true then some (.nx (δ.set i (.rd p.1)), p.2) else none := by
  simp only [sSet, bd_ap]; congr; funext k; split <;> rfl
@[simp] theorem sOwn_ap : sOwn i f δ s = (f δ s).bind fun p => some (.nx (δ.set i (.ow p.1)), p.2) := by simp [sOwn]
@[simp] theorem sIf_ap (a b : FS) : sIf p a b δ s = (p δ s).bind fun k => if k.1 = true then a δ k.2 else b δ k.2 := by
  simp only [sIf, bd_ap]; congr; funext k; split <;> rfl
@[simp] theorem sSeq_ap (a b : FS) : sSeq a b δ s = (a δ s).bind fun o => match o.1 with | .nx δ1 => b δ1 o.2 | o1 => some (o1, o.2) := by
  simp only [sSeq, bd_ap]; congr; funext k; obtain ⟨o, t⟩ := k; cases o <;> rfl
theorem seq_nx {a b : FS} {δ1 : Ev} {s1 : Src} (h : a δ s = some (.nx δ1, s1)) : sSeq a b δ s = b δ1 s1 := by rw [sSeq_ap, h]; rfl
@[simp] theorem sTg_ap (g : D → Ev → Option Ev) : sTg f g δ s = (f δ s).bind fun p => (M.of (if p.1.lf = true then g p.1 δ else none) p.2).bind fun q => some (.nx q.1, q.2) := by simp [sTg]
@[simp] theorem sTl_ap (n : Nat) (gs : List D → Ev → Option Ev) : sTl f n gs δ s = (f δ s).bind fun p => (M.of (match p.1 with | .lst ds => if ds.length = n ∧ lfs ds = true then gs ds δ else none | _ => none) p.2).bind fun q => some (.nx q.1, q.2) := by
  simp only [sTl, bd_ap] <;> congr
@[simp] theorem sPar_ap : sPar i j fs δ s = (fs δ s).bind fun p => match p.1 with | [d, e] => if lfs [d, e] = true then some (.nx ((δ.set i (.rd d)).set j (.rd e)), p.2) else none | _ => none := by
  simp only [sPar, bd_ap]; congr; funext k; obtain ⟨d, t⟩ := k; exact match d with
  | [] => rfl
  | [_] => rfl
  | [x, y] => by
    by_cases h : lfs [x, y] = true
    · show (if lfs [x, y] = true then M.ret _ else M.no) t = if lfs [x, y] = true then _ else _
      rw [if_pos h, if_pos h]; rfl
    · show (if lfs [x, y] = true then M.ret _ else M.no) t = if lfs [x, y] = true then _ else _
      rw [if_neg h, if_neg h]; rfl
  | _ :: _ :: _ :: _ => rfl
@[simp] theorem sAug_ap (o : D → D → Option D) : sAug i o f δ s = (M.of (gt δ i) s).bind fun x => (f δ x.2).bind fun y => (M.of (o x.1 y.1) y.2).bind fun z => if z.1.lf = true then some (.nx (δ.set i (.rd z.1)), z.2) else none := by
  simp only [sAug, bd_ap]; congr; funext x; congr; funext y; congr; funext z; split <;> rfl
@[simp] theorem sApp_ap {ds : List D} (hd : δ[i]? = some (.ow (.lst ds))) : sApp i f δ s = (f δ s).bind fun p => if p.1.lf = true ∧ ds.length < 1000000 then some (.nx (δ.set i (.ow (.lst (ds ++ [p.1])))), p.2) else none := by
  simp only [sApp, hd, bd_ap]; congr; funext k; split <;> rfl
@[simp] theorem sAppM_ap {ds es : List D} (hd : δ[i]? = some (.ow (.lst ds))) (he : δ[j]? = some (.ow (.lst es))) : sAppM i j δ s = if ds.length < 1000000 then some (.nx ((δ.set j .no).set i (.ow (.lst (ds ++ [.lst es])))), s) else none := by
  simp only [sAppM, hd, he]; split <;> rfl
@[simp] theorem sFor_ap (h : FI) (tg : D → Ev → Option Ev) (body : FS) : sFor h tg body δ s = (h δ s).bind fun p => fLp tg body p.1 δ p.2 := by simp [sFor]
@[simp] theorem eLc_ap (h : FI) (vs : List Nat) (g : D → Ev → Option Ev) (tt : Ev → M Bool) (te : FE) : eLc h vs g tt te δ s = (h δ s).bind fun p => if p.1.length ≤ 1000000 then (cLp vs g tt te δ p.1 p.2).bind fun q => some (.lst q.1, q.2) else none := by
  simp only [eLc, bd_ap]; congr; funext k; split <;> simp
theorem run_rt {n : Nat} {g : FS} {ds : List D} {d : D} {s1 : Src} (h : g (ent n ds) s = some (.rt d, s1)) : run n g ds s = some (d, s1) := by
  simp only [run, bd_ap, h]; rfl
theorem run_nx {n : Nat} {g : FS} {ds : List D} {δ1 : Ev} {s1 : Src} (h : g (ent n ds) s = some (.nx δ1, s1)) : run n g ds s = some (.non, s1) := by
  simp only [run, bd_ap, h]; rfl
end
@[simp] theorem gt_nil (i : Nat) : gt [] i = none := rfl
@[simp] theorem gt_zero (a : Sl) (l : Ev) : gt (a :: l) 0 = a.d := rfl
@[simp] theorem gt_succ (a : Sl) (l : Ev) (n : Nat) : gt (a :: l) (n + 1) = gt l n := rfl
@[simp] theorem sl_rd (d : D) : (Sl.rd d).d = some d := rfl
@[simp] theorem sl_ow (d : D) : (Sl.ow d).d = some d := rfl
@[simp] theorem sl_no : (Sl.no).d = none := rfl
@[simp] theorem gN_ap (i : Nat) (d : D) (δ : Ev) : gN i d δ = some (δ.set i (.rd d)) := rfl
@[simp] theorem gs0_ap (δ : Ev) : gs0 [] δ = some δ := rfl
@[simp] theorem gsC_ap (g : D → Ev → Option Ev) (gs : List D → Ev → Option Ev) (d : D) (r : List D) (δ : Ev) : gsC g gs (d :: r) δ = (g d δ).bind (gs r) := rfl
@[simp] theorem gT_ap (n : Nat) (gs : List D → Ev → Option Ev) (ds : List D) (δ : Ev) : gT n gs (.tup ds) δ = if ds.length = n then gs ds δ else none := rfl
@[simp] theorem wipe0 (δ : Ev) : wipeE δ [] = δ := rfl
@[simp] theorem wipe1 (δ : Ev) (v : Nat) (vs : List Nat) : wipeE δ (v :: vs) = (wipeE δ vs).set v .no := rfl
@[simp] theorem lf_int (i : Int) : (D.int i).lf = true := rfl
@[simp] theorem lf_bl (i : Bool) : (D.bl i).lf = true := rfl
@[simp] theorem lf_str (i : Str) : (D.str i).lf = true := rfl
@[simp] theorem lf_non : (D.non).lf = true := rfl
@[simp] theorem lf_dct (i : List (Str × Str)) : (D.dct i).lf = true := rfl
@[simp] theorem lf_tup (ds : List D) : (D.tup ds).lf = lfs ds := by simp [D.lf]
@[simp] theorem lf_tupk (ds : List D) : (D.tupk ds).lf = lfs ds := by simp [D.lf]
@[simp] theorem lfs_nil : lfs [] = true := by simp [lfs]
@[simp] theorem lfs_cons (d : D) (ds : List D) : lfs (d :: ds) = (d.lf && lfs ds) := by simp [lfs]
@[simp] theorem lfs_app (ds es : List D) : lfs (ds ++ es) = (lfs ds && lfs es) := by
  induction ds with
  | nil => simp
  | cons d ds ih => simp [ih, Bool.and_assoc]
theorem lfs_map {α : Type} {f : α → D} (h : ∀ a, (f a).lf = true) : ∀ l : List α, lfs (l.map f) = true
  | [] => by simp
  | a :: l => by simp [h, lfs_map h l]
@[simp] theorem lfs_ints (l : List Int) : lfs (l.map D.int) = true := lfs_map (fun _ => rfl) l
@[simp] theorem tru_bl (b : Bool) : truD (.bl b) = some b := rfl
@[simp] theorem tru_int (i : Int) : truD (.int i) = some (i != 0) := rfl
@[simp] theorem items_tup (ds : List D) : (D.tup ds).items = some ds := rfl
@[simp] theorem items_lst (ds : List D) : (D.lst ds).items = some ds := rfl
@[simp] theorem items_tupk (ds : List D) : (D.tupk ds).items = some ds := rfl
@[simp] theorem lfT_tup (ds : List D) : lfT (.tup ds) = if lfs ds = true then some ds else none := rfl
@[simp] theorem lfT_tupk (ds : List D) : lfT (.tupk ds) = if lfs ds = true then some ds else none := rfl
@[simp] theorem add_int (i j : Int) : dAdd (.int i) (.int j) = some (.int (i + j)) := rfl
@[simp] theorem add_tup (x y : List D) : dAdd (.tup x) (.tup y) = if x.length + y.length ≤ 1000000 then some (.tup (x ++ y)) else none := rfl
@[simp] theorem iadd_int (i j : Int) : dIAdd (.int i) (.int j) = some (.int (i + j)) := rfl
@[simp] theorem sub_int (i j : Int) : dSub (.int i) (.int j) = some (.int (i - j)) := rfl
theorem mul_int {i j : Int} (h : mulC i j = true) : dMul (.int i) (.int j) = some (.int (i * j)) := if_pos h
theorem mulC_l {i j : Int} (h : -1000000 ≤ i ∧ i ≤ 1000000) : mulC i j = true := by
  unfold mulC
  rw [decide_eq_true (show i.natAbs < 2 ^ 64 by omega)]; rfl
theorem mulC_r {i j : Int} (h : -1000000 ≤ j ∧ j ≤ 1000000) : mulC i j = true := by
  unfold mulC
  rw [decide_eq_true (show j.natAbs < 2 ^ 64 by omega), Bool.or_true]; rfl
@[simp] theorem neg_int (i : Int) : dNeg (.int i) = some (.int (-i)) := rfl
@[simp] theorem lt_int (i j : Int) : dLt (.int i) (.int j) = some (.bl (decide (i < j))) := rfl
@[simp] theorem le_int (i j : Int) : dLe (.int i) (.int j) = some (.bl (decide (i ≤ j))) := rfl
@[simp] theorem gt_int (i j : Int) : dGt (.int i) (.int j) = some (.bl (decide (j < i))) := rfl
@[simp] theorem ge_int (i j : Int) : dGe (.int i) (.int j) = some (.bl (decide (j ≤ i))) := rfl
theorem eqv_int (i j : Int) : (D.int i).eqv (.int j) = decide (i = j) := by
  show PyData.eqv (.int i) (.int j) = _
  unfold PyData.eqv
  rw [Bool.beq_eq_decide_eq]
@[simp] theorem eq_int (i j : Int) : dEq (.int i) (.int j) = some (.bl (decide (i = j))) := by
  show (if (true && true) = true then some (D.bl ((D.int i).eqv (.int j))) else none) = _
  rw [eqv_int]; rfl
@[simp] theorem ne_int (i j : Int) : dNe (.int i) (.int j) = some (.bl (!decide (i = j))) := by
  show (if (true && true) = true then some (D.bl (!(D.int i).eqv (.int j))) else none) = _
  rw [eqv_int]; rfl
theorem eqv_bl (i j : Bool) : (D.bl i).eqv (.bl j) = decide (i = j) := by
  show PyData.eqv (.bool i) (.bool j) = _
  unfold PyData.eqv
  rw [Bool.beq_eq_decide_eq]
@[simp] theorem eq_bl (i j : Bool) : dEq (.bl i) (.bl j) = some (.bl (decide (i = j))) := by
  show (if (true && true) = true then some (D.bl ((D.bl i).eqv (.bl j))) else none) = _
  rw [eqv_bl]; rfl
@[simp] theorem ne_bl (i j : Bool) : dNe (.bl i) (.bl j) = some (.bl (!decide (i = j))) := by
  show (if (true && true) = true then some (D.bl (!(D.bl i).eqv (.bl j))) else none) = _
  rw [eqv_bl]; rfl
theorem eqv_str (x y : Str) : (D.str x).eqv (.str y) = (x == y) := by
  show PyData.eqv (.str x) (.str y) = _
  unfold PyData.eqv
  rfl
theorem dOk_str {x : Str} (n : Nat) (h : PyData.strOk x = true) : dOk n (.str x) = true := by cases n <;> exact h
theorem eq_str {x y : Str} (h : PyData.strOk x = true) (h2 : PyData.strOk y = true) : dEq (.str x) (.str y) = some (.bl (x == y)) := by
  rw [dEq, dOk_str _ h, dOk_str _ h2, eqv_str]; rfl
theorem eqv_tup (xs ys : List D) : (D.tup xs).eqv (.tup ys) = PyData.eqvAll (pys xs) (pys ys) := by
  show PyData.eqv (D.tup xs).py (D.tup ys).py = _
  rw [D.py, D.py, PyData.eqv]
theorem eqvAll_ints : ∀ xs ys : List Int, PyData.eqvAll (pys (xs.map .int)) (pys (ys.map .int)) = decide (xs = ys)
  | [], [] => rfl
  | [], y :: ys => by rw [List.map_nil, List.map_cons, pys, pys, PyData.eqvAll]; rfl
  | x :: xs, [] => by rw [List.map_nil, List.map_cons, pys, pys, PyData.eqvAll]; rfl
  | x :: xs, y :: ys => by
    rw [List.map_cons, List.map_cons, pys, pys, PyData.eqvAll, eqvAll_ints xs ys]
    have := eqv_int x y
    unfold D.eqv at this
    rw [this]
    by_cases h1 : x = y
    · subst h1
      by_cases h2 : xs = ys
      · subst h2; simp
      · simp [h2]
    · simp [h1]
theorem dOk_ints {n : Nat} (xs : List Int) : dOk (n + 1) (.tup (xs.map .int)) = true := by
  rw [dOk, List.all_map]
  exact List.all_eq_true.mpr fun x _ => by cases n <;> rfl
theorem eq_ints (xs ys : List Int) : dEq (.tup (xs.map .int)) (.tup (ys.map .int)) = some (.bl (decide (xs = ys))) := by
  unfold dEq
  rw [dOk_ints, dOk_ints, eqv_tup, eqvAll_ints]; rfl
theorem ne_ints (xs ys : List Int) : dNe (.tup (xs.map .int)) (.tup (ys.map .int)) = some (.bl (!decide (xs = ys))) := by
  unfold dNe
  rw [dOk_ints, dOk_ints, eqv_tup, eqvAll_ints]; rfl
@[simp] theorem ix_int (a : D) (i : Int) : dIx a (.int i) = a.items.bind fun xs => atI xs i := rfl
theorem at_nat {α : Type} {xs : List α} {j : Nat} {v : α} (h : xs[j]? = some v) : atI xs (j : Int) = some v := atI_nat h
theorem at_last {α : Type} (xs : List α) (v : α) : atI (xs ++ [v]) (-1) = some v := atI_last xs v
@[simp] theorem at0 {α : Type} (a : α) (l : List α) : atI (a :: l) 0 = some a := atI_nat (j := 0) rfl
@[simp] theorem at1 {α : Type} (a b : α) (l : List α) : atI (a :: b :: l) 1 = some b := atI_nat (j := 1) rfl
@[simp] theorem at2 {α : Type} (a b c : α) (l : List α) : atI (a :: b :: c :: l) 2 = some c := atI_nat (j := 2) rfl
@[simp] theorem at3 {α : Type} (a b c d : α) (l : List α) : atI (a :: b :: c :: d :: l) 3 = some d := atI_nat (j := 3) rfl
@[simp] theorem len_tup (xs : List D) : bLen [.tup xs] = some (.int xs.length) := rfl
@[simp] theorem len_lst (xs : List D) : bLen [.lst xs] = some (.int xs.length) := rfl
@[simp] theorem len_tupk (xs : List D) : bLen [.tupk xs] = some (.int xs.length) := rfl
@[simp] theorem abs_i (i : Int) : bAbs [.int i] = some (.int (if i < 0 then -i else i)) := rfl
@[simp] theorem max2_i (i j : Int) : bMax2 [.int i, .int j] = some (.int (if j > i then j else i)) := rfl
@[simp] theorem min2_i (i j : Int) : bMin2 [.int i, .int j] = some (.int (if j < i then j else i)) := rfl
@[simp] theorem min3_i (a b c : Int) : bMin3 [.int a, .int b, .int c] = some (.int (if b < a then (if c < b then c else b) else (if c < a then c else a))) := rfl
@[simp] theorem tup_lst (xs : List D) : bTup [.lst xs] = some (.tup xs) := rfl
@[simp] theorem tup_tup (xs : List D) : bTup [.tup xs] = some (.tup xs) := rfl
@[simp] theorem tupk_lst (xs : List D) : bTupk [.lst xs] = some (.tupk xs) := rfl
@[simp] theorem any_lst (xs : List D) : bAny [.lst xs] = (boolL xs).map fun bs => .bl (bs.any id) := rfl
@[simp] theorem all_lst (xs : List D) : bAll [.lst xs] = (boolL xs).map fun bs => .bl (bs.all id) := rfl
theorem boolL_map {α : Type} (f : α → Bool) : ∀ l : List α, boolL (l.map fun a => .bl (f a)) = some (l.map f)
  | [] => rfl
  | a :: l => by rw [List.map_cons, boolL, boolL_map f l]; rfl
theorem intL_map {α : Type} (f : α → Int) : ∀ l : List α, intL (l.map fun a => .int (f a)) = some (l.map f)
  | [] => rfl
  | a :: l => by rw [List.map_cons, intL, intL_map f l]; rfl
@[simp] theorem isi_tup (T : String) (ds : List D) : isiD T (.tup ds) = some (.bl (isTy "tuple" T)) := rfl
@[simp] theorem isi_tupk (T : String) (ds : List D) : isiD T (.tupk ds) = some (.bl (isTy "tuple" T)) := rfl
@[simp] theorem isi_int (T : String) (i : Int) : isiD T (.int i) = some (.bl (isTy "int" T)) := rfl
@[simp] theorem isi_str (T : String) (i : Str) : isiD T (.str i) = some (.bl (isTy "str" T)) := rfl
@[simp] theorem ty1 : isTy "tuple" "tuple" = true := by decide
@[simp] theorem ty2 : isTy "int" "int" = true := by decide
@[simp] theorem ty3 : isTy "int" "bool" = false := by decide
@[simp] theorem ty4 : isTy "str" "str" = true := by decide
theorem rg1_i (j : Int) : rg1 [.int j] = if j.natAbs ≤ 1000000 then some (rngD 0 j.toNat) else none := rfl
theorem rg2_i (i j : Int) : rg2 [.int i, .int j] = if i.natAbs ≤ 1000000 ∧ j.natAbs ≤ 1000000 then some (rngD i (j - i).toNat) else none := rfl
@[simp] theorem ent_eq (n : Nat) (ds : List D) : ent n ds = ds.map .rd ++ List.replicate (n - ds.length) .no := rfl
/-- loops that leave the source -/
theorem fLp_inv {tg : D → Ev → Option Ev} {body : FS} (I : Nat → Ev → Prop) {s : Src} : ∀ (ds : List D) (k : Nat) (δ : Ev), I k δ →
    (∀ (i : Nat) (d : D) (δ : Ev), ds[i]? = some d → I (k + i) δ → d.lf = true ∧ ∃ δ1 δ2, tg d δ = some δ1 ∧ body δ1 s = some (.nx δ2, s) ∧ I (k + i + 1) δ2) → ∃ δ', fLp tg body ds δ s = some (.nx δ', s) ∧ I (k + ds.length) δ'
  | [], k, δ, h, _ => ⟨δ, rfl, h⟩
  | d :: ds, k, δ, h, hs => by
    obtain ⟨hl, δ1, δ2, h1, h2, h3⟩ := hs 0 d δ rfl h
    obtain ⟨δ', h4, h5⟩ := fLp_inv I ds (k + 1) δ2 h3 fun i e δ he hi => by
      have := hs (i + 1) e δ (by simpa using he) (by rw [show k + (i + 1) = k + 1 + i by omega]; exact hi)
      rw [show k + (i + 1) + 1 = k + 1 + i + 1 by omega] at this
      exact this
    refine ⟨δ', ?_, by rw [List.length_cons, show k + (ds.length + 1) = k + 1 + ds.length by omega]; exact h5⟩
    rw [fLp]
    simp only [bd_ap, hl, if_true, h1, of_some, Option.bind_some, h2]
    exact h4
/-- comprehensions without draws -/
theorem cLp_map {vs : List Nat} {g : D → Ev → Option Ev} {tt : Ev → M Bool} {te : FE} {δ : Ev} {s : Src} {α : Type} (en : α → D) (f : α → D) : ∀ (l : List α), (∀ a ∈ l, ∃ δ1, g (en a) (wipeE δ vs) = some δ1 ∧ tt δ1 s = some (true, s) ∧ te δ1 s = some (f a, s)) →
    cLp vs g tt te δ (l.map en) s = some (l.map f, s)
  | [], _ => rfl
  | a :: l, h => by
    obtain ⟨δ1, h1, h2, h3⟩ := h a List.mem_cons_self
    rw [List.map_cons, cLp]
    simp only [bd_ap, h1, of_some, Option.bind_some, h2, if_true, h3, cLp_map en f l fun b hb => h b (List.mem_cons_of_mem _ hb), ret_ap, List.map_cons]
theorem rngD_map : ∀ (n : Nat) (lo : Int), rngD lo n = (List.range n).map fun i => D.int (lo + (i : Nat))
  | 0, _ => rfl
  | n + 1, lo => by
    rw [rngD, rngD_map n, List.range_succ_eq_map, List.map_cons, List.map_map]
    congr 1
    · simp
    · refine List.map_congr_left fun i _ => ?_
      show D.int (lo + 1 + (i : Int)) = D.int (lo + ((i + 1 : Nat) : Int))
      congr 1; omega
theorem lc_eq {h : FI} {vs : List Nat} {g : D → Ev → Option Ev} {tt : Ev → M Bool} {te : FE} {δ : Ev} {s s1 s2 : Src} {ds ys : List D} (h1 : h δ s = some (ds, s1)) (hl : ds.length ≤ 1000000) (hc : cLp vs g tt te δ ds s1 = some (ys, s2)) : eLc h vs g tt te δ s = some (.lst ys, s2) := by
  rw [eLc_ap, h1, Option.bind_some, if_pos hl, hc]; rfl
/-- what range(n) walks over -/
def rgs (n : Nat) : List D := (List.range n).map fun i => .int (i : Nat)
theorem rg1_n {n : Nat} (h : n ≤ 1000000) : rg1 [.int (n : Nat)] = some (rgs n) := by
  rw [rg1_i, if_pos (by omega), rngD_map, Int.toNat_natCast]
  congr 1
  exact List.map_congr_left fun i _ => by rw [Int.zero_add]
theorem rg1_s {n : Nat} (h : n < 1000000) : rg1 [.int ((n : Int) + 1)] = some (rgs (n + 1)) := rg1_n (n := n + 1) h
theorem rgs_len (n : Nat) : (rgs n).length = n := by simp [rgs]
theorem rgs_get {n i : Nat} (h : i < n) : (rgs n)[i]? = some (.int (i : Nat)) := by rw [rgs, List.getElem?_map, List.getElem?_range h]; rfl
theorem rgs_inv {n i : Nat} {d : D} (h : (rgs n)[i]? = some d) : i < n ∧ d = .int (i : Nat) := by
  have hi : i < n := by
    have := (List.getElem?_eq_some_iff.mp h).1
    rwa [rgs_len] at this
  rw [rgs_get hi] at h
  cases h
  exact ⟨hi, rfl⟩
/-- a comprehension over range(n) without draws -/
theorem cLp_rgs {vs : List Nat} {g : D → Ev → Option Ev} {tt : Ev → M Bool} {te : FE} {δ : Ev} {s : Src} (f : Nat → D) (n : Nat) (h : ∀ i, i < n → ∃ δ1, g (.int (i : Nat)) (wipeE δ vs) = some δ1 ∧ tt δ1 s = some (true, s) ∧ te δ1 s = some (f i, s)) :
    cLp vs g tt te δ (rgs n) s = some ((List.range n).map f, s) := cLp_map (fun i : Nat => D.int i) f _ fun i hi => h i (List.mem_range.mp hi)
theorem at_rg {α : Type} (f : Nat → α) {n j : Nat} (h : j < n) : atI ((List.range n).map f) (j : Int) = some (f j) := at_nat (by rw [List.getElem?_map, List.getElem?_range h]; rfl)
theorem at_rg_last {α : Type} (f : Nat → α) {n : Nat} : atI ((List.range (n + 1)).map f) (-1) = some (f n) := by
  rw [List.range_succ, List.map_append]; exact at_last _ _
end DL
set_option Elab.async false
set_option linter.all false
set_option maxRecDepth 100000
set_option maxHeartbeats 4000000
namespace K38
open PySem PySem.Spec PyProof.Rows L2 DL
/-! printed by gen.py -/
def topS (i : Nat) : Stmt := PySem.Challenge.pw_farandnear_k38_whole_least_rows_and_more.main.body.getD i (.Pass ⟨0, 0, 0, 0⟩)
structure Tx (K : PySem.W.Frag) (mg : Str → Option Value) where
  f_is_integer : Addr
  fd_is_integer : FuncData
  F_is_integer : Fun K "is_integer" "is_integer" (topS 4) f_is_integer fd_is_integer
  g_is_integer : mg "is_integer" = some (.ref f_is_integer)
  b_is_integer : Binds K fd_is_integer ["value"] []
  f_check_table : Addr
  fd_check_table : FuncData
  F_check_table : Fun K "check_table" "check_table" (topS 8) f_check_table fd_check_table
  g_check_table : mg "check_table" = some (.ref f_check_table)
  b_check_table : Binds K fd_check_table ["table"] []
  f_choices : Addr
  fd_choices : FuncData
  F_choices : Fun K "choices" "choices" (topS 9) f_choices fd_choices
  g_choices : mg "choices" = some (.ref f_choices)
  b_choices : Binds K fd_choices ["many", "size"] []
  f_distance_paper : Addr
  fd_distance_paper : FuncData
  F_distance_paper : Fun K "distance_paper" "distance_paper" (topS 10) f_distance_paper fd_distance_paper
  g_distance_paper : mg "distance_paper" = some (.ref f_distance_paper)
  b_distance_paper : Binds K fd_distance_paper ["table"] []
  f_check_distances : Addr
  fd_check_distances : FuncData
  F_check_distances : Fun K "check_distances" "check_distances" (topS 11) f_check_distances fd_check_distances
  g_check_distances : mg "check_distances" = some (.ref f_check_distances)
  b_check_distances : Binds K fd_check_distances ["table"] []
  f_check_row_spans : Addr
  fd_check_row_spans : FuncData
  F_check_row_spans : Fun K "check_row" "check_row" (topS 13) f_check_row_spans fd_check_row_spans
  g_check_row_spans : mg "check_row_spans" = some (.ref f_check_row_spans)
  b_check_row_spans : Binds K fd_check_row_spans ["table", "row"] []
  f_least_paper : Addr
  fd_least_paper : FuncData
  F_least_paper : Fun K "least_paper" "least_paper" (topS 15) f_least_paper fd_least_paper
  g_least_paper : mg "least_paper" = some (.ref f_least_paper)
  b_least_paper : Binds K fd_least_paper ["table", "row"] []
  f_is_short : Addr
  fd_is_short : FuncData
  F_is_short : Fun K "is_short" "is_short" (topS 16) f_is_short fd_is_short
  g_is_short : mg "is_short" = some (.ref f_is_short)
  b_is_short : Binds K fd_is_short ["table", "row"] []
  f_lowered : Addr
  fd_lowered : FuncData
  F_lowered : Fun K "lowered" "lowered" (topS 17) f_lowered fd_lowered
  g_lowered : mg "lowered" = some (.ref f_lowered)
  b_lowered : Binds K fd_lowered ["table", "row"] []
  f_least_rows : Addr
  fd_least_rows : FuncData
  F_least_rows : Fun K "least_rows" "least_rows" (topS 18) f_least_rows fd_least_rows
  g_least_rows : mg "least_rows" = some (.ref f_least_rows)
  b_least_rows : Binds K fd_least_rows ["table"] []
  f_greatest_gap : Addr
  fd_greatest_gap : FuncData
  F_greatest_gap : Fun K "greatest_gap" "greatest_gap" (topS 19) f_greatest_gap fd_greatest_gap
  g_greatest_gap : mg "greatest_gap" = some (.ref f_greatest_gap)
  b_greatest_gap : Binds K fd_greatest_gap ["row", "other"] []
  f_check_row_glues : Addr
  fd_check_row_glues : FuncData
  F_check_row_glues : Fun K "check_row" "check_row" (topS 21) f_check_row_glues fd_check_row_glues
  g_check_row_glues : mg "check_row_glues" = some (.ref f_check_row_glues)
  b_check_row_glues : Binds K fd_check_row_glues ["table", "row"] []
  f_more_paper : Addr
  fd_more_paper : FuncData
  F_more_paper : Fun K "more_paper" "more_paper" (topS 23) f_more_paper fd_more_paper
  g_more_paper : mg "more_paper" = some (.ref f_more_paper)
  b_more_paper : Binds K fd_more_paper ["table", "row"] []
  f_with_point : Addr
  fd_with_point : FuncData
  F_with_point : Fun K "with_point" "with_point" (topS 24) f_with_point fd_with_point
  g_with_point : mg "with_point" = some (.ref f_with_point)
  b_with_point : Binds K fd_with_point ["table", "row"] []
  f__law_begin : Addr
  fd__law_begin : FuncData
  F__law_begin : Fun K "_law_begin" "_law_begin" (topS 26) f__law_begin fd__law_begin
  g__law_begin : mg "_law_begin" = some (.ref f__law_begin)
  b__law_begin : Binds K fd__law_begin ["script"] []
  f__law_take : Addr
  fd__law_take : FuncData
  F__law_take : Fun K "_law_take" "_law_take" (topS 27) f__law_take fd__law_take
  g__law_take : mg "_law_take" = some (.ref f__law_take)
  b__law_take : Binds K fd__law_take ["d", "many"] []
  f__law_short : Addr
  fd__law_short : FuncData
  F__law_short : Fun K "_law_short" "_law_short" (topS 28) f__law_short fd__law_short
  g__law_short : mg "_law_short" = some (.ref f__law_short)
  b__law_short : Binds K fd__law_short ["table"] []
  f__law_table : Addr
  fd__law_table : FuncData
  F__law_table : Fun K "_law_table" "_law_table" (topS 29) f__law_table fd__law_table
  g__law_table : mg "_law_table" = some (.ref f__law_table)
  b__law_table : Binds K fd__law_table ["d", "n", "top"] []
  f__law_pick : Addr
  fd__law_pick : FuncData
  F__law_pick : Fun K "_law_pick" "_law_pick" (topS 30) f__law_pick fd__law_pick
  g__law_pick : mg "_law_pick" = some (.ref f__law_pick)
  b__law_pick : Binds K fd__law_pick ["d", "menu"] []
  n_abs : mg "abs" = none
  n_all : mg "all" = none
  n_any : mg "any" = none
  n_bool : mg "bool" = none
  n_enumerate : mg "enumerate" = none
  n_int : mg "int" = none
  n_isinstance : mg "isinstance" = none
  n_len : mg "len" = none
  n_list : mg "list" = none
  n_max : mg "max" = none
  n_min : mg "min" = none
  n_range : mg "range" = none
  n_tuple : mg "tuple" = none
  n_zip : mg "zip" = none
  c_MOST_FAR : ∃ t, mg "MOST_FAR" = some (.int 1000 t)
  c_MOST_POINTS : ∃ t, mg "MOST_POINTS" = some (.int 8 t)
section
variable {P : Program} {w : World} {K : PySem.W.Frag} {mg : Str → Option Value} {base : Heap}
/-! is_integer -/
theorem sc_is_integer : FnScope ["value"] ["value"] (defScope (topS 4)) := ⟨rfl, rfl, rfl, by decide +kernel, rfl, by decide +kernel, by decide +kernel⟩
def g_is_integer : FS := (sRet (eAnd (e1 (isiD "int") (eVar 0)) (eNot (e1 (isiD "bool") (eVar 0)))))
def F_is_integer : List D → M D := run 1 g_is_integer
theorem ok_is_integer (T : Tx K mg) : FnOk P w K mg base CX0 1 T.f_is_integer T.fd_is_integer ["value"] (spD 1 F_is_integer) :=
  fn_ok (N := ["value"]) T.F_is_integer sc_is_integer (by decide) (fun cdv A outer s H E hr => (show DSs _ _ g_is_integer from (ds_one (ds_ret (d_and (d_isi (by rfl) T.n_isinstance (by rfl) T.n_int PyProof.Rows.boot_int (d_var 0)) (d_one (d_not (d_isi (by rfl) T.n_isinstance (by rfl) T.n_bool (by decide +kernel) (d_var 0)))))))))
/-! check_table -/
theorem sc_check_table : FnScope ["table", "row", "at", "each", "to"] ["table"] (defScope (topS 8)) := ⟨rfl, rfl, rfl, by decide +kernel, rfl, by decide +kernel, by decide +kernel⟩
def c_check_table_1 : FE := (eLc (iSeq (eVar 1)) [3] (gN 3) bYes (eOr (eNot (eFn (fun ds => if ds.length = 1 then F_is_integer ds else M.no) (eAs (eVar 3) eAs0))) (eNot (eCh dLe dLe (eC (.int 0)) (eVar 3) (eC (.int 1000))))))
def b_check_table_2 : FS := (sSeq (sIf (bOr (bNot (bTr (e1 (isiD "tuple") (eVar 1)))) (bOf (e2 dNe (eCall bLen (eAs (eVar 1) eAs0)) (eCall bLen (eAs (eVar 0) eAs0))))) sNo sNil)
  (sIf (bTr (eCall bAny (eAs c_check_table_1 eAs0))) sNo sNil))
def c_check_table_3 : FE := (eLc (iOf rg1 (eAs (eVar 2) eAs0)) [4] (gN 4) bYes (e2 dNe (e2 dIx (eVar 1) (eVar 4)) (e2 dIx (e2 dIx (eVar 0) (eVar 4)) (eVar 2))))
def b_check_table_4 : FS := (sIf (bOr (bOf (e2 dNe (e2 dIx (eVar 1) (eVar 2)) (eC (.int 0)))) (bTr (eCall bAny (eAs c_check_table_3 eAs0)))) sNo sNil)
def g_check_table : FS := (sSeq (sIf (bOr (bNot (bTr (e1 (isiD "tuple") (eVar 0)))) (bNot (bOf (eCh dLe dLe (eC (.int 1)) (eCall bLen (eAs (eVar 0) eAs0)) (eC (.int 8)))))) sNo sNil)
  (sSeq (sFor (iSeqT (eVar 0)) (gN 1) b_check_table_2)
  (sFor (iOf en1T (eAs (eVar 0) eAs0)) (gT 2 (gsC (gN 2) (gsC (gN 1) gs0))) b_check_table_4)))
def F_check_table : List D → M D := run 5 g_check_table
theorem ok_check_table (T : Tx K mg) : FnOk P w K mg base CX0 2 T.f_check_table T.fd_check_table ["table"] (spD 1 F_check_table) :=
  fn_ok (N := ["table", "row", "at", "each", "to"]) T.F_check_table sc_check_table (by decide) (fun cdv A outer s H E hr => (show DSs _ _ g_check_table from (ds_cons (ds_if (PW.pt (dw_or (dt_not (dt_tr (d_isi (by rfl) T.n_isinstance (by rfl) T.n_tuple PyProof.Rows.boot_tuple (d_var 0)))) (dw_or1 (dt_not (dt_chain o_le o_le d_int (d_bi b_len (by rfl) T.n_len PySem.boot_len (da_cons (d_var 0) da_nil)) (d_glob (v := .int 8) (d := .int 8) rfl T.c_MOST_POINTS.choose_spec ⟨_, rfl⟩ (fun _ _ => .int _))))))) (ds_one ds_no) ds_nil)
  (ds_cons (ds_for PassesOwn.never rfl (dif_seq (d_var 0)) (sg_name (i := 1) sc_check_table.nd rfl (by first | exact Or.inl rfl | exact Or.inr rfl)) (show DSs _ _ b_check_table_2 from (ds_cons (ds_if (PW.pt (dw_or (dt_not (dt_tr (d_isi (by rfl) T.n_isinstance (by rfl) T.n_tuple PyProof.Rows.boot_tuple (d_var 1)))) (dw_or1 (dt_cmp (o_ne hr.units) (d_bi b_len (by rfl) T.n_len PySem.boot_len (da_cons (d_var 1) da_nil)) (d_bi b_len (by rfl) T.n_len PySem.boot_len (da_cons (d_var 0) da_nil)))))) (ds_one ds_no) ds_nil)
  (ds_one (ds_if (dt_tr (d_bi (b_any rfl) (by rfl) T.n_any boot_any (da_cons (d_lc (own := [("each", 3)]) rfl sc_check_table.nd (di_seq (d_var 1)) (blkOk_by (by kernel_rfl)) (fun _ _ _ _ _ => (dg_name (i := 3) sc_check_table.nd rfl (by first | exact Or.inl rfl | exact Or.inr rfl))) (fun _ _ _ _ _ => dts_nil) (fun _ _ _ _ _ => (d_or (d_not (d_fn (n := 1) ((ok_is_integer T).mono (by decide)) hr rfl T.g_is_integer T.F_is_integer.kp T.b_is_integer pass0 (da_cons (d_var 3) da_nil))) (d_one (d_not (d_chain o_le o_le d_int (d_var 3) (d_glob (v := .int 1000) (d := .int 1000) rfl T.c_MOST_FAR.choose_spec ⟨_, rfl⟩ (fun _ _ => .int _)))))))) da_nil))) (ds_one ds_no) ds_nil)))))
  (ds_one (ds_for PassesOwn.never rfl (dif_enum (by rfl) T.n_enumerate (da_cons (d_var 0) da_nil)) (sg_tup rfl (sgs_cons (sg_name (i := 2) sc_check_table.nd rfl (by first | exact Or.inl rfl | exact Or.inr rfl)) (sgs_cons (sg_name (i := 1) sc_check_table.nd rfl (by first | exact Or.inl rfl | exact Or.inr rfl)) sgs_nil))) (show DSs _ _ b_check_table_4 from (ds_one (ds_if (PW.pt (dw_or (dt_cmp (o_ne hr.units) (d_ix o_ix (d_var 1) (d_var 2)) d_int) (dw_or1 (dt_tr (d_bi (b_any rfl) (by rfl) T.n_any boot_any (da_cons (d_lc (own := [("to", 4)]) rfl sc_check_table.nd (dif (dif_range1 (by rfl) T.n_range (da_cons (d_var 2) da_nil))) (blkOk_by (by kernel_rfl)) (fun _ _ _ _ _ => (dg_name (i := 4) sc_check_table.nd rfl (by first | exact Or.inl rfl | exact Or.inr rfl))) (fun _ _ _ _ _ => dts_nil) (fun _ _ _ _ _ => (d_cmp (o_ne hr.units) (d_ix o_ix (d_var 1) (d_var 4)) (d_ix o_ix (d_ix o_ix (d_var 0) (d_var 4)) (d_var 2))))) da_nil)))))) (ds_one ds_no) ds_nil)))))))))
/-! choices -/
theorem sc_choices : FnScope ["many", "size", "found", "turn", "row", "each"] ["many", "size"] (defScope (topS 9)) := ⟨rfl, rfl, rfl, by decide +kernel, rfl, by decide +kernel, by decide +kernel⟩
def c_choices_1 : FE := (eLc2 (iSeq (eVar 2)) [4, 5] (gN 4) bYes (iOf rg2 (eAs (eIf (bTr (eVar 4)) (e2 dAdd (e2 dIx (eVar 4) (e1 dNeg (eC (.int 1)))) (eC (.int 1))) (eC (.int 0))) (eAs (eVar 0) eAs0))) [5] (gN 5) bYes (eLf (e2 dAdd (eVar 4) (eTup (eAs (eVar 5) eAs0)))))
def b_choices_2 : FS := (sOwn 2 c_choices_1)
def g_choices : FS := (sSeq (sOwn 2 (eLst (eAs (eLf (eTup eAs0)) eAs0)))
  (sSeq (sFor (iOf rg1 (eAs (eVar 1) eAs0)) (gN 3) b_choices_2)
  (sRet (eVar 2))))
def F_choices : List D → M D := run 6 g_choices
theorem ok_choices (T : Tx K mg) : FnOk P w K mg base CX0 1 T.f_choices T.fd_choices ["many", "size"] (spD 2 F_choices) :=
  fn_ok (N := ["many", "size", "found", "turn", "row", "each"]) T.F_choices sc_choices (by decide) (fun cdv A outer s H E hr => (show DSs _ _ g_choices from (ds_cons (ds_own (i := 2) sc_choices.nd rfl (by first | exact Or.inl rfl | exact Or.inr rfl) (df_lst (daf_cons (df_lf (d_tup da_nil)) daf_nil)))
  (ds_cons (ds_for PassesOwn.never rfl (dif_range1 (by rfl) T.n_range (da_cons (d_var 1) da_nil)) (sg_name (i := 3) sc_choices.nd rfl (by first | exact Or.inl rfl | exact Or.inr rfl)) (show DSs _ _ b_choices_2 from (ds_one (ds_setLc2 (i := 2) (own := [("row", 4), ("each", 5)]) rfl sc_choices.nd rfl rfl (sw_true rfl rfl rfl (by kernel_rfl)) (di_seq (d_var 2)) (blkOk_by (by kernel_rfl)) (by decide) (fun _ _ _ _ _ => (dg_sub (vs := [4]) (by decide) (dg_name (i := 4) sc_choices.nd rfl (by first | exact Or.inl rfl | exact Or.inr rfl)))) (fun _ _ _ _ _ => dts_nil) (fun _ _ _ _ _ => (dif (dif_range2 (by rfl) T.n_range (da_cons (d_if (dt_tr (d_var 4)) (d_op o_add (d_ix o_ix (d_var 4) (d_un o_neg d_int)) d_int) d_int) (da_cons (d_var 0) da_nil))))) (fun _ _ _ _ _ => (dg_name (i := 5) sc_choices.nd rfl (by first | exact Or.inl rfl | exact Or.inr rfl))) (fun _ _ _ _ _ => dts_nil) (fun _ _ _ _ _ => (df_lf (d_op o_add (d_var 4) (d_tup (da_cons (d_var 5) da_nil)))))))))
  (ds_one (ds_ret (d_var 2)))))))
/-! distance_paper -/
theorem sc_distance_paper : FnScope ["table", "one", "other", "third"] ["table"] (defScope (topS 10)) := ⟨rfl, rfl, rfl, by decide +kernel, rfl, by decide +kernel, by decide +kernel⟩
def b_distance_paper_1 : FS := (sIf (bOf (e2 dEq (e2 dIx (e2 dIx (eVar 0) (eVar 1)) (eVar 2)) (eC (.int 0)))) (sRet (eTup (eAs (eC (.str "same")) (eAs (eVar 1) (eAs (eVar 2) eAs0))))) sNil)
def b_distance_paper_2 : FS := (sIf (bOf (e2 dLt (e2 dAdd (e2 dIx (e2 dIx (eVar 0) (eVar 1)) (eVar 3)) (e2 dIx (e2 dIx (eVar 0) (eVar 3)) (eVar 2))) (e2 dIx (e2 dIx (eVar 0) (eVar 1)) (eVar 2)))) (sRet (eTup (eAs (eC (.str "short")) (eAs (eVar 1) (eAs (eVar 3) (eAs (eVar 2) eAs0)))))) sNil)
def b_distance_paper_3 : FS := (sFor (iOf rg1 (eAs (eCall bLen (eAs (eVar 0) eAs0)) eAs0)) (gN 3) b_distance_paper_2)
def g_distance_paper : FS := (sSeq (sExp (eFn (fun ds => if ds.length = 1 then F_check_table ds else M.no) (eAs (eVar 0) eAs0)))
  (sSeq (sForN (iSeq (eFn (fun ds => if ds.length = 2 then F_choices ds else M.no) (eAs (eCall bLen (eAs (eVar 0) eAs0)) (eAs (eC (.int 2)) eAs0)))) (gT 2 (gsC (gN 1) (gsC (gN 2) gs0))) b_distance_paper_1)
  (sSeq (sForN (iSeq (eFn (fun ds => if ds.length = 2 then F_choices ds else M.no) (eAs (eCall bLen (eAs (eVar 0) eAs0)) (eAs (eC (.int 2)) eAs0)))) (gT 2 (gsC (gN 1) (gsC (gN 2) gs0))) b_distance_paper_3)
  (sRet (eTup (eAs (eC (.str "distances")) eAs0))))))
def F_distance_paper : List D → M D := run 4 g_distance_paper
theorem ok_distance_paper (T : Tx K mg) : FnOk P w K mg base CX0 3 T.f_distance_paper T.fd_distance_paper ["table"] (spD 1 F_distance_paper) :=
  fn_ok (N := ["table", "one", "other", "third"]) T.F_distance_paper sc_distance_paper (by decide) (fun cdv A outer s H E hr => (show DSs _ _ g_distance_paper from (ds_cons (ds_exp (d_fn (n := 1) ((ok_check_table T).mono (by decide)) hr rfl T.g_check_table T.F_check_table.kp T.b_check_table pass0 (da_cons (d_var 0) da_nil)))
  (ds_cons (ds_forN PassesOwn.never rfl (di_seq (d_fn (n := 2) ((ok_choices T).mono (by decide)) hr rfl T.g_choices T.F_choices.kp T.b_choices pass0 (da_cons (d_bi b_len (by rfl) T.n_len PySem.boot_len (da_cons (d_var 0) da_nil)) (da_cons d_int da_nil)))) (sg_tup rfl (sgs_cons (sg_name (i := 1) sc_distance_paper.nd rfl (by first | exact Or.inl rfl | exact Or.inr rfl)) (sgs_cons (sg_name (i := 2) sc_distance_paper.nd rfl (by first | exact Or.inl rfl | exact Or.inr rfl)) sgs_nil))) (show DSs _ _ b_distance_paper_1 from (ds_one (ds_if (dt_cmp (o_eq hr.units) (d_ix o_ix (d_ix o_ix (d_var 0) (d_var 1)) (d_var 2)) d_int) (ds_one (ds_ret (d_tup (da_cons d_str (da_cons (d_var 1) (da_cons (d_var 2) da_nil)))))) ds_nil))))
  (ds_cons (ds_forN PassesOwn.never rfl (di_seq (d_fn (n := 2) ((ok_choices T).mono (by decide)) hr rfl T.g_choices T.F_choices.kp T.b_choices pass0 (da_cons (d_bi b_len (by rfl) T.n_len PySem.boot_len (da_cons (d_var 0) da_nil)) (da_cons d_int da_nil)))) (sg_tup rfl (sgs_cons (sg_name (i := 1) sc_distance_paper.nd rfl (by first | exact Or.inl rfl | exact Or.inr rfl)) (sgs_cons (sg_name (i := 2) sc_distance_paper.nd rfl (by first | exact Or.inl rfl | exact Or.inr rfl)) sgs_nil))) (show DSs _ _ b_distance_paper_3 from (ds_one (ds_for PassesOwn.never rfl (dif_range1 (by rfl) T.n_range (da_cons (d_bi b_len (by rfl) T.n_len PySem.boot_len (da_cons (d_var 0) da_nil)) da_nil)) (sg_name (i := 3) sc_distance_paper.nd rfl (by first | exact Or.inl rfl | exact Or.inr rfl)) (show DSs _ _ b_distance_paper_2 from (ds_one (ds_if (dt_cmp o_lt (d_op o_add (d_ix o_ix (d_ix o_ix (d_var 0) (d_var 1)) (d_var 3)) (d_ix o_ix (d_ix o_ix (d_var 0) (d_var 3)) (d_var 2))) (d_ix o_ix (d_ix o_ix (d_var 0) (d_var 1)) (d_var 2))) (ds_one (ds_ret (d_tup (da_cons d_str (da_cons (d_var 1) (da_cons (d_var 3) (da_cons (d_var 2) da_nil))))))) ds_nil)))))))
  (ds_one (ds_ret (d_tup (da_cons d_str da_nil)))))))))
/-! check_distances -/
theorem sc_check_distances : FnScope ["table"] ["table"] (defScope (topS 11)) := ⟨rfl, rfl, rfl, by decide +kernel, rfl, by decide +kernel, by decide +kernel⟩
def g_check_distances : FS := (sIf (bOf (e2 dNe (eFn (fun ds => if ds.length = 1 then F_distance_paper ds else M.no) (eAs (eVar 0) eAs0)) (eTup (eAs (eC (.str "distances")) eAs0)))) sNo sNil)
def F_check_distances : List D → M D := run 1 g_check_distances
theorem ok_check_distances (T : Tx K mg) : FnOk P w K mg base CX0 4 T.f_check_distances T.fd_check_distances ["table"] (spD 1 F_check_distances) :=
  fn_ok (N := ["table"]) T.F_check_distances sc_check_distances (by decide) (fun cdv A outer s H E hr => (show DSs _ _ g_check_distances from (ds_one (ds_if (dt_cmp (o_ne hr.units) (d_fn (n := 1) ((ok_distance_paper T).mono (by decide)) hr rfl T.g_distance_paper T.F_distance_paper.kp T.b_distance_paper pass0 (da_cons (d_var 0) da_nil)) (d_tup (da_cons d_str da_nil))) (ds_one ds_no) ds_nil))))
/-! check_row_spans -/
theorem sc_check_row_spans : FnScope ["table", "row", "each"] ["table", "row"] (defScope (topS 13)) := ⟨rfl, rfl, rfl, by decide +kernel, rfl, by decide +kernel, by decide +kernel⟩
def c_check_row_spans_1 : FE := (eLc (iSeq (eVar 1)) [2] (gN 2) bYes (eOr (eNot (eFn (fun ds => if ds.length = 1 then F_is_integer ds else M.no) (eAs (eVar 2) eAs0))) (e2 dLt (eVar 2) (eC (.int 0)))))
def g_check_row_spans : FS := (sIf (bOr (bNot (bTr (e1 (isiD "tuple") (eVar 1)))) (bOr (bOf (e2 dNe (eCall bLen (eAs (eVar 1) eAs0)) (eCall bLen (eAs (eVar 0) eAs0)))) (bTr (eCall bAny (eAs c_check_row_spans_1 eAs0))))) sNo sNil)
def F_check_row_spans : List D → M D := run 3 g_check_row_spans
theorem ok_check_row_spans (T : Tx K mg) : FnOk P w K mg base CX0 2 T.f_check_row_spans T.fd_check_row_spans ["table", "row"] (spD 2 F_check_row_spans) :=
  fn_ok (N := ["table", "row", "each"]) T.F_check_row_spans sc_check_row_spans (by decide) (fun cdv A outer s H E hr => (show DSs _ _ g_check_row_spans from (ds_one (ds_if (PW.pt (dw_or (dt_not (dt_tr (d_isi (by rfl) T.n_isinstance (by rfl) T.n_tuple PyProof.Rows.boot_tuple (d_var 1)))) (dw_or (dt_cmp (o_ne hr.units) (d_bi b_len (by rfl) T.n_len PySem.boot_len (da_cons (d_var 1) da_nil)) (d_bi b_len (by rfl) T.n_len PySem.boot_len (da_cons (d_var 0) da_nil))) (dw_or1 (dt_tr (d_bi (b_any rfl) (by rfl) T.n_any boot_any (da_cons (d_lc (own := [("each", 2)]) rfl sc_check_row_spans.nd (di_seq (d_var 1)) (blkOk_by (by kernel_rfl)) (fun _ _ _ _ _ => (dg_name (i := 2) sc_check_row_spans.nd rfl (by first | exact Or.inl rfl | exact Or.inr rfl))) (fun _ _ _ _ _ => dts_nil) (fun _ _ _ _ _ => (d_or (d_not (d_fn (n := 1) ((ok_is_integer T).mono (by decide)) hr rfl T.g_is_integer T.F_is_integer.kp T.b_is_integer pass0 (da_cons (d_var 2) da_nil))) (d_one (d_cmp o_lt (d_var 2) d_int))))) da_nil))))))) (ds_one ds_no) ds_nil))))
/-! least_paper -/
theorem sc_least_paper : FnScope ["table", "row", "one", "other", "partners", "able", "to"] ["table", "row"] (defScope (topS 15)) := ⟨rfl, rfl, rfl, by decide +kernel, rfl, by decide +kernel, by decide +kernel⟩
def b_least_paper_1 : FS := (sIf (bOf (e2 dLt (e2 dAdd (e2 dIx (eVar 1) (eVar 2)) (e2 dIx (eVar 1) (eVar 3))) (e2 dIx (e2 dIx (eVar 0) (eVar 2)) (eVar 3)))) (sRet (eTup (eAs (eC (.str "short")) (eAs (eVar 2) (eAs (eVar 3) eAs0))))) sNil)
def c_least_paper_2 : FE := (eLc (iOf rg1 (eAs (eCall bLen (eAs (eVar 0) eAs0)) eAs0)) [6] (gN 6) (bOf (e2 dEq (e2 dAdd (e2 dIx (eVar 1) (eVar 2)) (e2 dIx (eVar 1) (eVar 6))) (e2 dIx (e2 dIx (eVar 0) (eVar 2)) (eVar 6)))) (eLf (eVar 6)))
def b_least_paper_3 : FS := (sSeq (sOwn 5 c_least_paper_2)
  (sSeq (sIf (bNot (bTr (eVar 5))) (sRet (eTup (eAs (eC (.str "loose")) (eAs (eVar 2) eAs0)))) sNil)
  (sApp 4 (e2 dIx (eVar 5) (eC (.int 0))))))
def g_least_paper : FS := (sSeq (sExp (eFn (fun ds => if ds.length = 1 then F_check_distances ds else M.no) (eAs (eVar 0) eAs0)))
  (sSeq (sExp (eFn (fun ds => if ds.length = 2 then F_check_row_spans ds else M.no) (eAs (eVar 0) (eAs (eVar 1) eAs0))))
  (sSeq (sForN (iSeq (eFn (fun ds => if ds.length = 2 then F_choices ds else M.no) (eAs (eCall bLen (eAs (eVar 0) eAs0)) (eAs (eC (.int 2)) eAs0)))) (gT 2 (gsC (gN 2) (gsC (gN 3) gs0))) b_least_paper_1)
  (sSeq (sOwn 4 (eLst eAs0))
  (sSeq (sFor (iOf rg1 (eAs (eCall bLen (eAs (eVar 0) eAs0)) eAs0)) (gN 2) b_least_paper_3)
  (sRet (eTup (eAs (eC (.str "least")) (eAs (eCall bTup (eAs (eVar 4) eAs0)) eAs0)))))))))
def F_least_paper : List D → M D := run 7 g_least_paper
theorem ok_least_paper (T : Tx K mg) : FnOk P w K mg base CX0 5 T.f_least_paper T.fd_least_paper ["table", "row"] (spD 2 F_least_paper) :=
  fn_ok (N := ["table", "row", "one", "other", "partners", "able", "to"]) T.F_least_paper sc_least_paper (by decide) (fun cdv A outer s H E hr => (show DSs _ _ g_least_paper from (ds_cons (ds_exp (d_fn (n := 1) ((ok_check_distances T).mono (by decide)) hr rfl T.g_check_distances T.F_check_distances.kp T.b_check_distances pass0 (da_cons (d_var 0) da_nil)))
  (ds_cons (ds_exp (d_fn (n := 2) ((ok_check_row_spans T).mono (by decide)) hr rfl T.g_check_row_spans T.F_check_row_spans.kp T.b_check_row_spans pass0 (da_cons (d_var 0) (da_cons (d_var 1) da_nil))))
  (ds_cons (ds_forN PassesOwn.never rfl (di_seq (d_fn (n := 2) ((ok_choices T).mono (by decide)) hr rfl T.g_choices T.F_choices.kp T.b_choices pass0 (da_cons (d_bi b_len (by rfl) T.n_len PySem.boot_len (da_cons (d_var 0) da_nil)) (da_cons d_int da_nil)))) (sg_tup rfl (sgs_cons (sg_name (i := 2) sc_least_paper.nd rfl (by first | exact Or.inl rfl | exact Or.inr rfl)) (sgs_cons (sg_name (i := 3) sc_least_paper.nd rfl (by first | exact Or.inl rfl | exact Or.inr rfl)) sgs_nil))) (show DSs _ _ b_least_paper_1 from (ds_one (ds_if (dt_cmp o_lt (d_op o_add (d_ix o_ix (d_var 1) (d_var 2)) (d_ix o_ix (d_var 1) (d_var 3))) (d_ix o_ix (d_ix o_ix (d_var 0) (d_var 2)) (d_var 3))) (ds_one (ds_ret (d_tup (da_cons d_str (da_cons (d_var 2) (da_cons (d_var 3) da_nil)))))) ds_nil))))
  (ds_cons (ds_own (i := 4) sc_least_paper.nd rfl (by first | exact Or.inl rfl | exact Or.inr rfl) (df_lst daf_nil))
  (ds_cons (ds_for PassesOwn.never rfl (dif_range1 (by rfl) T.n_range (da_cons (d_bi b_len (by rfl) T.n_len PySem.boot_len (da_cons (d_var 0) da_nil)) da_nil)) (sg_name (i := 2) sc_least_paper.nd rfl (by first | exact Or.inl rfl | exact Or.inr rfl)) (show DSs _ _ b_least_paper_3 from (ds_cons (ds_setLc (i := 5) (own := [("to", 6)]) rfl sc_least_paper.nd rfl rfl (sw_true rfl rfl rfl (by kernel_rfl)) (dif (dif_range1 (by rfl) T.n_range (da_cons (d_bi b_len (by rfl) T.n_len PySem.boot_len (da_cons (d_var 0) da_nil)) da_nil))) (blkOk_by (by kernel_rfl)) (fun _ _ _ _ _ => (dg_name (i := 6) sc_least_paper.nd rfl (by first | exact Or.inl rfl | exact Or.inr rfl))) (fun _ _ _ _ _ => (dts_one (dt_cmp (o_eq hr.units) (d_op o_add (d_ix o_ix (d_var 1) (d_var 2)) (d_ix o_ix (d_var 1) (d_var 6))) (d_ix o_ix (d_ix o_ix (d_var 0) (d_var 2)) (d_var 6))))) (fun _ _ _ _ _ => (df_lf (d_var 6))))
  (ds_cons (ds_if (dt_not (dt_tr (d_var 5))) (ds_one (ds_ret (d_tup (da_cons d_str (da_cons (d_var 2) da_nil))))) ds_nil)
  (ds_one (ds_app (i := 4) rfl (by first | exact Or.inl rfl | exact Or.inr (Or.inl rfl)) (d_ix o_ix (d_var 5) d_int)))))))
  (ds_one (ds_ret (d_tup (da_cons d_str (da_cons (d_ty b_tup (by rfl) T.n_tuple PyProof.Rows.boot_tuple (da_cons (d_var 4) da_nil)) da_nil))))))))))))
/-! is_short -/
theorem sc_is_short : FnScope ["table", "row", "one", "other"] ["table", "row"] (defScope (topS 16)) := ⟨rfl, rfl, rfl, by decide +kernel, rfl, by decide +kernel, by decide +kernel⟩
def c_is_short_1 : FE := (eLc (iSeq (eFn (fun ds => if ds.length = 2 then F_choices ds else M.no) (eAs (eCall bLen (eAs (eVar 0) eAs0)) (eAs (eC (.int 2)) eAs0)))) [2, 3] (gT 2 (gsC (gN 2) (gsC (gN 3) gs0))) bYes (e2 dLt (e2 dAdd (e2 dIx (eVar 1) (eVar 2)) (e2 dIx (eVar 1) (eVar 3))) (e2 dIx (e2 dIx (eVar 0) (eVar 2)) (eVar 3))))
def g_is_short : FS := (sRet (eCall bAny (eAs c_is_short_1 eAs0)))
def F_is_short : List D → M D := run 4 g_is_short
theorem ok_is_short (T : Tx K mg) : FnOk P w K mg base CX0 2 T.f_is_short T.fd_is_short ["table", "row"] (spD 2 F_is_short) :=
  fn_ok (N := ["table", "row", "one", "other"]) T.F_is_short sc_is_short (by decide) (fun cdv A outer s H E hr => (show DSs _ _ g_is_short from (ds_one (ds_ret (d_bi (b_any rfl) (by rfl) T.n_any boot_any (da_cons (d_lc (own := [("one", 2), ("other", 3)]) rfl sc_is_short.nd (di_seq (d_fn (n := 2) ((ok_choices T).mono (by decide)) hr rfl T.g_choices T.F_choices.kp T.b_choices pass0 (da_cons (d_bi b_len (by rfl) T.n_len PySem.boot_len (da_cons (d_var 0) da_nil)) (da_cons d_int da_nil)))) (blkOk_by (by kernel_rfl)) (fun _ _ _ _ _ => (dg_tup rfl (dgs_cons (dg_name (i := 2) sc_is_short.nd rfl (by first | exact Or.inl rfl | exact Or.inr rfl)) (dgs_cons (dg_name (i := 3) sc_is_short.nd rfl (by first | exact Or.inl rfl | exact Or.inr rfl)) dgs_nil)))) (fun _ _ _ _ _ => dts_nil) (fun _ _ _ _ _ => (d_cmp o_lt (d_op o_add (d_ix o_ix (d_var 1) (d_var 2)) (d_ix o_ix (d_var 1) (d_var 3))) (d_ix o_ix (d_ix o_ix (d_var 0) (d_var 2)) (d_var 3))))) da_nil))))))
/-! lowered -/
theorem sc_lowered : FnScope ["table", "row", "found", "at", "to"] ["table", "row"] (defScope (topS 17)) := ⟨rfl, rfl, rfl, by decide +kernel, rfl, by decide +kernel, by decide +kernel⟩
def c_lowered_1 : FE := (eLc (iOf rg1 (eAs (eCall bLen (eAs (eVar 0) eAs0)) eAs0)) [4] (gN 4) (bOf (e2 dNe (eVar 4) (eVar 3))) (e2 dSub (e2 dIx (e2 dIx (eVar 0) (eVar 3)) (eVar 4)) (e2 dIx (eVar 2) (eVar 4))))
def b_lowered_2 : FS := (sSub 2 (eVar 3) (eCall bMaxS (eAs (e2 dAdd (eLst (eAs (eC (.int 0)) eAs0)) c_lowered_1) eAs0)))
def g_lowered : FS := (sSeq (sExp (eFn (fun ds => if ds.length = 1 then F_check_distances ds else M.no) (eAs (eVar 0) eAs0)))
  (sSeq (sExp (eFn (fun ds => if ds.length = 2 then F_check_row_spans ds else M.no) (eAs (eVar 0) (eAs (eVar 1) eAs0))))
  (sSeq (sIf (bTr (eFn (fun ds => if ds.length = 2 then F_is_short ds else M.no) (eAs (eVar 0) (eAs (eVar 1) eAs0)))) sNo sNil)
  (sSeq (sOwn 2 (eCall bListF (eAs (eVar 1) eAs0)))
  (sSeq (sFor (iOf rg1 (eAs (eCall bLen (eAs (eVar 0) eAs0)) eAs0)) (gN 3) b_lowered_2)
  (sRet (eCall bTup (eAs (eVar 2) eAs0))))))))
def F_lowered : List D → M D := run 5 g_lowered
theorem ok_lowered (T : Tx K mg) : FnOk P w K mg base CX0 5 T.f_lowered T.fd_lowered ["table", "row"] (spD 2 F_lowered) :=
  fn_ok (N := ["table", "row", "found", "at", "to"]) T.F_lowered sc_lowered (by decide) (fun cdv A outer s H E hr => (show DSs _ _ g_lowered from (ds_cons (ds_exp (d_fn (n := 1) ((ok_check_distances T).mono (by decide)) hr rfl T.g_check_distances T.F_check_distances.kp T.b_check_distances pass0 (da_cons (d_var 0) da_nil)))
  (ds_cons (ds_exp (d_fn (n := 2) ((ok_check_row_spans T).mono (by decide)) hr rfl T.g_check_row_spans T.F_check_row_spans.kp T.b_check_row_spans pass0 (da_cons (d_var 0) (da_cons (d_var 1) da_nil))))
  (ds_cons (ds_if (dt_tr (d_fn (n := 2) ((ok_is_short T).mono (by decide)) hr rfl T.g_is_short T.F_is_short.kp T.b_is_short pass0 (da_cons (d_var 0) (da_cons (d_var 1) da_nil)))) (ds_one ds_no) ds_nil)
  (ds_cons (ds_own (i := 2) sc_lowered.nd rfl (by first | exact Or.inl rfl | exact Or.inr rfl) (df_list (by rfl) T.n_list PyProof.Rows.boot_list (da_cons (d_var 1) da_nil)))
  (ds_cons (ds_for PassesOwn.never rfl (dif_range1 (by rfl) T.n_range (da_cons (d_bi b_len (by rfl) T.n_len PySem.boot_len (da_cons (d_var 0) da_nil)) da_nil)) (sg_name (i := 3) sc_lowered.nd rfl (by first | exact Or.inl rfl | exact Or.inr rfl)) (show DSs _ _ b_lowered_2 from (ds_one (ds_sub (i := 2) rfl (by first | exact Or.inl rfl | exact Or.inr (Or.inl rfl)) (d_var 3) (d_bi (b_maxS rfl) (by rfl) T.n_max boot_max (da_cons (d_op o_add (d_lst (da_cons d_int da_nil)) (d_lc (own := [("to", 4)]) rfl sc_lowered.nd (dif (dif_range1 (by rfl) T.n_range (da_cons (d_bi b_len (by rfl) T.n_len PySem.boot_len (da_cons (d_var 0) da_nil)) da_nil))) (blkOk_by (by kernel_rfl)) (fun _ _ _ _ _ => (dg_name (i := 4) sc_lowered.nd rfl (by first | exact Or.inl rfl | exact Or.inr rfl))) (fun _ _ _ _ _ => (dts_one (dt_cmp (o_ne hr.units) (d_var 4) (d_var 3)))) (fun _ _ _ _ _ => (d_op o_sub (d_ix o_ix (d_ix o_ix (d_var 0) (d_var 3)) (d_var 4)) (d_ix o_ix (d_var 2) (d_var 4)))))) da_nil))))))
  (ds_one (ds_ret (d_ty b_tup (by rfl) T.n_tuple PyProof.Rows.boot_tuple (da_cons (d_var 2) da_nil)))))))))))
/-! least_rows -/
theorem sc_least_rows : FnScope ["table", "rows", "at", "row", "each", "to"] ["table"] (defScope (topS 18)) := ⟨rfl, rfl, rfl, by decide +kernel, rfl, by decide +kernel, by decide +kernel⟩
def c_least_rows_1 : FE := (eLc (iOf rg1 (eAs (eVar 2) eAs0)) [5] (gN 5) bYes (eNot (eCh dLe dLe (eCall bAbs (eAs (e2 dSub (e2 dIx (eVar 3) (eVar 5)) (eVar 4)) eAs0)) (e2 dIx (e2 dIx (eVar 0) (eVar 2)) (eVar 5)) (e2 dAdd (e2 dIx (eVar 3) (eVar 5)) (eVar 4)))))
def c_least_rows_2 : FE := (eLc2 (iSeq (eVar 1)) [3, 4] (gN 3) bYes (iOf rg1 (eAs (e2 dAdd (eCall bMaxS (eAs (e2 dIx (eVar 0) (eVar 2)) eAs0)) (eC (.int 1))) eAs0)) [4] (gN 4) (bNot (bTr (eCall bAny (eAs c_least_rows_1 eAs0)))) (eLf (e2 dAdd (eVar 3) (eTup (eAs (eVar 4) eAs0)))))
def b_least_rows_3 : FS := (sSeq (sOwn 1 c_least_rows_2)
  (sIf (bOf (e2 dGt (eCall bLen (eAs (eVar 1) eAs0)) (eC (.int 4000)))) sNo sNil))
def c_least_rows_4 : FE := (eLc (iSeq (eVar 1)) [3] (gN 3) (bOf (e2 dEq (e2 dIx (eFn (fun ds => if ds.length = 2 then F_least_paper ds else M.no) (eAs (eVar 0) (eAs (eVar 3) eAs0))) (eC (.int 0))) (eC (.str "least")))) (eVar 3))
def g_least_rows : FS := (sSeq (sExp (eFn (fun ds => if ds.length = 1 then F_check_distances ds else M.no) (eAs (eVar 0) eAs0)))
  (sSeq (sOwn 1 (eLst (eAs (eLf (eTup eAs0)) eAs0)))
  (sSeq (sFor (iOf rg1 (eAs (eCall bLen (eAs (eVar 0) eAs0)) eAs0)) (gN 2) b_least_rows_3)
  (sRet (eCall bTup (eAs c_least_rows_4 eAs0))))))
def F_least_rows : List D → M D := run 6 g_least_rows
theorem ok_least_rows (T : Tx K mg) : FnOk P w K mg base CX0 6 T.f_least_rows T.fd_least_rows ["table"] (spD 1 F_least_rows) :=
  fn_ok (N := ["table", "rows", "at", "row", "each", "to"]) T.F_least_rows sc_least_rows (by decide) (fun cdv A outer s H E hr => (show DSs _ _ g_least_rows from (ds_cons (ds_exp (d_fn (n := 1) ((ok_check_distances T).mono (by decide)) hr rfl T.g_check_distances T.F_check_distances.kp T.b_check_distances pass0 (da_cons (d_var 0) da_nil)))
  (ds_cons (ds_own (i := 1) sc_least_rows.nd rfl (by first | exact Or.inl rfl | exact Or.inr rfl) (df_lst (daf_cons (df_lf (d_tup da_nil)) daf_nil)))
  (ds_cons (ds_for PassesOwn.never rfl (dif_range1 (by rfl) T.n_range (da_cons (d_bi b_len (by rfl) T.n_len PySem.boot_len (da_cons (d_var 0) da_nil)) da_nil)) (sg_name (i := 2) sc_least_rows.nd rfl (by first | exact Or.inl rfl | exact Or.inr rfl)) (show DSs _ _ b_least_rows_3 from (ds_cons (ds_setLc2 (i := 1) (own := [("row", 3), ("each", 4)]) rfl sc_least_rows.nd rfl rfl (sw_true rfl rfl rfl (by kernel_rfl)) (di_seq (d_var 1)) (blkOk_by (by kernel_rfl)) (by decide) (fun _ _ _ _ _ => (dg_sub (vs := [3]) (by decide) (dg_name (i := 3) sc_least_rows.nd rfl (by first | exact Or.inl rfl | exact Or.inr rfl)))) (fun _ _ _ _ _ => dts_nil) (fun _ _ _ _ _ => (dif (dif_range1 (by rfl) T.n_range (da_cons (d_op o_add (d_bi (b_maxS rfl) (by rfl) T.n_max boot_max (da_cons (d_ix o_ix (d_var 0) (d_var 2)) da_nil)) d_int) da_nil)))) (fun _ _ _ _ _ => (dg_name (i := 4) sc_least_rows.nd rfl (by first | exact Or.inl rfl | exact Or.inr rfl))) (fun _ _ _ _ _ => (dts_one (dt_not (dt_tr (d_bi (b_any rfl) (by rfl) T.n_any boot_any (da_cons (d_lc (own := [("to", 5)]) rfl sc_least_rows.nd (dif (dif_range1 (by rfl) T.n_range (da_cons (d_var 2) da_nil))) (blkOk_by (by kernel_rfl)) (fun _ _ _ _ _ => (dg_name (i := 5) sc_least_rows.nd rfl (by first | exact Or.inl rfl | exact Or.inr rfl))) (fun _ _ _ _ _ => dts_nil) (fun _ _ _ _ _ => (d_not (d_chain o_le o_le (d_bi b_abs (by rfl) T.n_abs boot_abs (da_cons (d_op o_sub (d_ix o_ix (d_var 3) (d_var 5)) (d_var 4)) da_nil)) (d_ix o_ix (d_ix o_ix (d_var 0) (d_var 2)) (d_var 5)) (d_op o_add (d_ix o_ix (d_var 3) (d_var 5)) (d_var 4)))))) da_nil)))))) (fun _ _ _ _ _ => (df_lf (d_op o_add (d_var 3) (d_tup (da_cons (d_var 4) da_nil))))))
  (ds_one (ds_if (dt_cmp o_gt (d_bi b_len (by rfl) T.n_len PySem.boot_len (da_cons (d_var 1) da_nil)) d_int) (ds_one ds_no) ds_nil)))))
  (ds_one (ds_ret (d_ty b_tup (by rfl) T.n_tuple PyProof.Rows.boot_tuple (da_cons (d_lc (own := [("row", 3)]) rfl sc_least_rows.nd (di_seq (d_var 1)) (blkOk_by (by kernel_rfl)) (fun _ _ _ _ _ => (dg_name (i := 3) sc_least_rows.nd rfl (by first | exact Or.inl rfl | exact Or.inr rfl))) (fun _ _ _ _ _ => (dts_one (dt_cmp (o_eq hr.units) (d_ix o_ix (d_fn (n := 2) ((ok_least_paper T).mono (by decide)) hr rfl T.g_least_paper T.F_least_paper.kp T.b_least_paper pass0 (da_cons (d_var 0) (da_cons (d_var 3) da_nil))) d_int) d_str))) (fun _ _ _ _ _ => (d_var 3))) da_nil)))))))))
/-! greatest_gap -/
theorem sc_greatest_gap : FnScope ["row", "other", "one", "another"] ["row", "other"] (defScope (topS 19)) := ⟨rfl, rfl, rfl, by decide +kernel, rfl, by decide +kernel, by decide +kernel⟩
def c_greatest_gap_1 : FE := (eLc (iOf zp2 (eAs (eVar 0) (eAs (eVar 1) eAs0))) [2, 3] (gT 2 (gsC (gN 2) (gsC (gN 3) gs0))) bYes (eCall bAbs (eAs (e2 dSub (eVar 2) (eVar 3)) eAs0)))
def g_greatest_gap : FS := (sRet (eCall bMaxS (eAs c_greatest_gap_1 eAs0)))
def F_greatest_gap : List D → M D := run 4 g_greatest_gap
theorem ok_greatest_gap (T : Tx K mg) : FnOk P w K mg base CX0 1 T.f_greatest_gap T.fd_greatest_gap ["row", "other"] (spD 2 F_greatest_gap) :=
  fn_ok (N := ["row", "other", "one", "another"]) T.F_greatest_gap sc_greatest_gap (by decide) (fun cdv A outer s H E hr => (show DSs _ _ g_greatest_gap from (ds_one (ds_ret (d_bi (b_maxS rfl) (by rfl) T.n_max boot_max (da_cons (d_lc (own := [("one", 2), ("another", 3)]) rfl sc_greatest_gap.nd (di_zip (by rfl) T.n_zip (da_cons (d_var 0) (da_cons (d_var 1) da_nil))) (blkOk_by (by kernel_rfl)) (fun _ _ _ _ _ => (dg_tup rfl (dgs_cons (dg_name (i := 2) sc_greatest_gap.nd rfl (by first | exact Or.inl rfl | exact Or.inr rfl)) (dgs_cons (dg_name (i := 3) sc_greatest_gap.nd rfl (by first | exact Or.inl rfl | exact Or.inr rfl)) dgs_nil)))) (fun _ _ _ _ _ => dts_nil) (fun _ _ _ _ _ => (d_bi b_abs (by rfl) T.n_abs boot_abs (da_cons (d_op o_sub (d_var 2) (d_var 3)) da_nil)))) da_nil))))))
/-! check_row_glues -/
theorem sc_check_row_glues : FnScope ["table", "row", "each"] ["table", "row"] (defScope (topS 21)) := ⟨rfl, rfl, rfl, by decide +kernel, rfl, by decide +kernel, by decide +kernel⟩
def c_check_row_glues_1 : FE := (eLc (iSeq (eVar 1)) [2] (gN 2) bYes (eOr (eNot (eFn (fun ds => if ds.length = 1 then F_is_integer ds else M.no) (eAs (eVar 2) eAs0))) (eNot (eCh dLt dLe (eC (.int 0)) (eVar 2) (eC (.int 1000))))))
def g_check_row_glues : FS := (sSeq (sIf (bOr (bNot (bTr (e1 (isiD "tuple") (eVar 1)))) (bOf (e2 dNe (eCall bLen (eAs (eVar 1) eAs0)) (eCall bLen (eAs (eVar 0) eAs0))))) sNo sNil)
  (sIf (bTr (eCall bAny (eAs c_check_row_glues_1 eAs0))) sNo sNil))
def F_check_row_glues : List D → M D := run 3 g_check_row_glues
theorem ok_check_row_glues (T : Tx K mg) : FnOk P w K mg base CX0 2 T.f_check_row_glues T.fd_check_row_glues ["table", "row"] (spD 2 F_check_row_glues) :=
  fn_ok (N := ["table", "row", "each"]) T.F_check_row_glues sc_check_row_glues (by decide) (fun cdv A outer s H E hr => (show DSs _ _ g_check_row_glues from (ds_cons (ds_if (PW.pt (dw_or (dt_not (dt_tr (d_isi (by rfl) T.n_isinstance (by rfl) T.n_tuple PyProof.Rows.boot_tuple (d_var 1)))) (dw_or1 (dt_cmp (o_ne hr.units) (d_bi b_len (by rfl) T.n_len PySem.boot_len (da_cons (d_var 1) da_nil)) (d_bi b_len (by rfl) T.n_len PySem.boot_len (da_cons (d_var 0) da_nil)))))) (ds_one ds_no) ds_nil)
  (ds_one (ds_if (dt_tr (d_bi (b_any rfl) (by rfl) T.n_any boot_any (da_cons (d_lc (own := [("each", 2)]) rfl sc_check_row_glues.nd (di_seq (d_var 1)) (blkOk_by (by kernel_rfl)) (fun _ _ _ _ _ => (dg_name (i := 2) sc_check_row_glues.nd rfl (by first | exact Or.inl rfl | exact Or.inr rfl))) (fun _ _ _ _ _ => dts_nil) (fun _ _ _ _ _ => (d_or (d_not (d_fn (n := 1) ((ok_is_integer T).mono (by decide)) hr rfl T.g_is_integer T.F_is_integer.kp T.b_is_integer pass0 (da_cons (d_var 2) da_nil))) (d_one (d_not (d_chain o_lt o_le d_int (d_var 2) d_int)))))) da_nil))) (ds_one ds_no) ds_nil)))))
/-! more_paper -/
theorem sc_more_paper : FnScope ["table", "row", "one", "other"] ["table", "row"] (defScope (topS 23)) := ⟨rfl, rfl, rfl, by decide +kernel, rfl, by decide +kernel, by decide +kernel⟩
def b_more_paper_1 : FS := (sSeq (sIf (bOf (e2 dLt (e2 dAdd (e2 dIx (eVar 1) (eVar 2)) (e2 dIx (eVar 1) (eVar 3))) (e2 dIx (e2 dIx (eVar 0) (eVar 2)) (eVar 3)))) (sRet (eTup (eAs (eC (.str "sum")) (eAs (eVar 2) (eAs (eVar 3) eAs0))))) sNil)
  (sIf (bOf (e2 dGt (eCall bAbs (eAs (e2 dSub (e2 dIx (eVar 1) (eVar 2)) (e2 dIx (eVar 1) (eVar 3))) eAs0)) (e2 dIx (e2 dIx (eVar 0) (eVar 2)) (eVar 3)))) (sRet (eTup (eAs (eC (.str "gap")) (eAs (eVar 2) (eAs (eVar 3) eAs0))))) sNil))
def g_more_paper : FS := (sSeq (sExp (eFn (fun ds => if ds.length = 1 then F_check_distances ds else M.no) (eAs (eVar 0) eAs0)))
  (sSeq (sExp (eFn (fun ds => if ds.length = 2 then F_check_row_glues ds else M.no) (eAs (eVar 0) (eAs (eVar 1) eAs0))))
  (sSeq (sForN (iSeq (eFn (fun ds => if ds.length = 2 then F_choices ds else M.no) (eAs (eCall bLen (eAs (eVar 0) eAs0)) (eAs (eC (.int 2)) eAs0)))) (gT 2 (gsC (gN 2) (gsC (gN 3) gs0))) b_more_paper_1)
  (sRet (eTup (eAs (eC (.str "fits")) eAs0))))))
def F_more_paper : List D → M D := run 4 g_more_paper
theorem ok_more_paper (T : Tx K mg) : FnOk P w K mg base CX0 5 T.f_more_paper T.fd_more_paper ["table", "row"] (spD 2 F_more_paper) :=
  fn_ok (N := ["table", "row", "one", "other"]) T.F_more_paper sc_more_paper (by decide) (fun cdv A outer s H E hr => (show DSs _ _ g_more_paper from (ds_cons (ds_exp (d_fn (n := 1) ((ok_check_distances T).mono (by decide)) hr rfl T.g_check_distances T.F_check_distances.kp T.b_check_distances pass0 (da_cons (d_var 0) da_nil)))
  (ds_cons (ds_exp (d_fn (n := 2) ((ok_check_row_glues T).mono (by decide)) hr rfl T.g_check_row_glues T.F_check_row_glues.kp T.b_check_row_glues pass0 (da_cons (d_var 0) (da_cons (d_var 1) da_nil))))
  (ds_cons (ds_forN PassesOwn.never rfl (di_seq (d_fn (n := 2) ((ok_choices T).mono (by decide)) hr rfl T.g_choices T.F_choices.kp T.b_choices pass0 (da_cons (d_bi b_len (by rfl) T.n_len PySem.boot_len (da_cons (d_var 0) da_nil)) (da_cons d_int da_nil)))) (sg_tup rfl (sgs_cons (sg_name (i := 2) sc_more_paper.nd rfl (by first | exact Or.inl rfl | exact Or.inr rfl)) (sgs_cons (sg_name (i := 3) sc_more_paper.nd rfl (by first | exact Or.inl rfl | exact Or.inr rfl)) sgs_nil))) (show DSs _ _ b_more_paper_1 from (ds_cons (ds_if (dt_cmp o_lt (d_op o_add (d_ix o_ix (d_var 1) (d_var 2)) (d_ix o_ix (d_var 1) (d_var 3))) (d_ix o_ix (d_ix o_ix (d_var 0) (d_var 2)) (d_var 3))) (ds_one (ds_ret (d_tup (da_cons d_str (da_cons (d_var 2) (da_cons (d_var 3) da_nil)))))) ds_nil)
  (ds_one (ds_if (dt_cmp o_gt (d_bi b_abs (by rfl) T.n_abs boot_abs (da_cons (d_op o_sub (d_ix o_ix (d_var 1) (d_var 2)) (d_ix o_ix (d_var 1) (d_var 3))) da_nil)) (d_ix o_ix (d_ix o_ix (d_var 0) (d_var 2)) (d_var 3))) (ds_one (ds_ret (d_tup (da_cons d_str (da_cons (d_var 2) (da_cons (d_var 3) da_nil)))))) ds_nil)))))
  (ds_one (ds_ret (d_tup (da_cons d_str da_nil)))))))))
/-! with_point -/
theorem sc_with_point : FnScope ["table", "row", "at", "line"] ["table", "row"] (defScope (topS 24)) := ⟨rfl, rfl, rfl, by decide +kernel, rfl, by decide +kernel, by decide +kernel⟩
def c_with_point_1 : FE := (eLc (iOf en1 (eAs (eVar 0) eAs0)) [2, 3] (gT 2 (gsC (gN 2) (gsC (gN 3) gs0))) bYes (e2 dAdd (eVar 3) (eTup (eAs (e2 dIx (eVar 1) (eVar 2)) eAs0))))
def g_with_point : FS := (sSeq (sIf (bOf (e2 dNe (eFn (fun ds => if ds.length = 2 then F_more_paper ds else M.no) (eAs (eVar 0) (eAs (eVar 1) eAs0))) (eTup (eAs (eC (.str "fits")) eAs0)))) sNo sNil)
  (sRet (e2 dAdd (eCall bTup (eAs c_with_point_1 eAs0)) (eTup (eAs (e2 dAdd (eVar 1) (eTup (eAs (eC (.int 0)) eAs0))) eAs0)))))
def F_with_point : List D → M D := run 4 g_with_point
theorem ok_with_point (T : Tx K mg) : FnOk P w K mg base CX0 6 T.f_with_point T.fd_with_point ["table", "row"] (spD 2 F_with_point) :=
  fn_ok (N := ["table", "row", "at", "line"]) T.F_with_point sc_with_point (by decide) (fun cdv A outer s H E hr => (show DSs _ _ g_with_point from (ds_cons (ds_if (dt_cmp (o_ne hr.units) (d_fn (n := 2) ((ok_more_paper T).mono (by decide)) hr rfl T.g_more_paper T.F_more_paper.kp T.b_more_paper pass0 (da_cons (d_var 0) (da_cons (d_var 1) da_nil))) (d_tup (da_cons d_str da_nil))) (ds_one ds_no) ds_nil)
  (ds_one (ds_ret (d_op o_add (d_ty b_tup (by rfl) T.n_tuple PyProof.Rows.boot_tuple (da_cons (d_lc (own := [("at", 2), ("line", 3)]) rfl sc_with_point.nd (di_enum (by rfl) T.n_enumerate (da_cons (d_var 0) da_nil)) (blkOk_by (by kernel_rfl)) (fun _ _ _ _ _ => (dg_tup rfl (dgs_cons (dg_name (i := 2) sc_with_point.nd rfl (by first | exact Or.inl rfl | exact Or.inr rfl)) (dgs_cons (dg_name (i := 3) sc_with_point.nd rfl (by first | exact Or.inl rfl | exact Or.inr rfl)) dgs_nil)))) (fun _ _ _ _ _ => dts_nil) (fun _ _ _ _ _ => (d_op o_add (d_var 3) (d_tup (da_cons (d_ix o_ix (d_var 1) (d_var 2)) da_nil))))) da_nil)) (d_tup (da_cons (d_op o_add (d_var 1) (d_tup (da_cons d_int da_nil))) da_nil))))))))
theorem sc__law_take : FnScope ["d", "many", "small", "digit"] ["d", "many"] (defScope (topS 27)) := ⟨rfl, rfl, rfl, by decide +kernel, rfl, by decide +kernel, by decide +kernel⟩
theorem ok__law_take (T : Tx K mg) : FnOk P w K mg base CX0 1 T.f__law_take T.fd__law_take ["d", "many"] (spD 2 F__law_take) := by
  refine T.F__law_take.ok sc__law_take (fun vs H Q E ⟨S, ds, L, st, d, st', r, hl, _⟩ => r.len.trans hl) (fun cdv A outer s H vs Q E hr h => ?_)
  obtain ⟨S, ds, L, st, d, st', r, hl, so, e, q⟩ := h
  match ds, hl with
  | [x, y], _ =>
  cases x with
  | src =>
    cases y with
    | int m =>
      obtain ⟨v, u, L1, L2', rfl, r1, r2⟩ := r.i2
      cases r1
      obtain ⟨rfl, rfl⟩ := r2.iint
      have e : (if 0 < m ∧ m ≤ 1000000 then some (D.int (take st m).1, (take st m).2) else none) = some (d, st') := e
      by_cases hm : 0 < m ∧ m ≤ 1000000
      · rw [if_pos hm] at e
        have e' := Option.some.inj e
        have ed : D.int (take st m).1 = d := congrArg Prod.fst e'
        have es : (take st m).2 = st' := congrArg Prod.snd e'
        clear e e'
        subst ed es
        have sl := sc__law_take.nd
        refine ⟨_, pss_cons (ps_if (PW.pt (pw_and (pt_cmpR op_eq (pe_ix ix_list (pv 0) pe_int (fun _ _ => rfl)) pe_int (nomark _)) (pw_and1 (pt_cmpR op_lt (pe_ix ix_list (pv 0) pe_int (fun _ _ => rfl)) (pe_callB call_len_seq (by rfl) T.n_len PySem.boot_len (pa_cons (pe_ix ix_list (pv 0) pe_int (fun _ _ => rfl)) pa_nil)) (nomark _)))))
            (pss_cons (ps_asg (pe_callB call_abs (by rfl) T.n_abs boot_abs (pa_cons (pe_callTy call_int1 (by rfl) T.n_int PyProof.Rows.boot_int (pa_cons (pe_ix ix_list (pe_ix ix_list (pv 0) pe_int (fun _ _ => rfl)) (pe_ix ix_list (pv 0) pe_int (fun _ _ => rfl)) (fun _ _ => rfl)) pa_nil)) pa_nil)) (pg_sub (pv 0) pe_int set_list))
            (pss_cons (ps_asg (pe_op op_add (pe_ix ix_list (pv 0) pe_int (fun _ _ => rfl)) pe_int) (pg_sub (pv 0) pe_int set_list))
            (pss_one (ps_if (pt_cmpR op_lt (pe_ix ix_list (pv 0) pe_int (fun _ _ => rfl)) (pe_op op_pow pe_int pe_int) (nomark _))
              (pss_cons (ps_set (i := 2) sl rfl (Or.inl rfl) (pe_callTy call_int1 (by rfl) T.n_int PyProof.Rows.boot_int (pa_cons (pe_ix ix_list (pv 0) pe_int (fun _ _ => rfl)) pa_nil)))
              (pss_cons (ps_asg pe_int (pg_sub (pv 0) pe_int set_list))
              (pss_one (ps_ret (pe_op op_mod (pv 2) (pv 1))))))
              pss_nil)))) pss_nil)
          (pss_cons (ps_if (pt_cmpR op_gt (pe_ix ix_list (pv 0) pe_int (fun _ _ => rfl)) pe_int (nomark _))
            (pss_cons (ps_set (i := 3) sl rfl (Or.inl rfl) (pe_op op_mod (pe_callTy call_int1 (by rfl) T.n_int PyProof.Rows.boot_int (pa_cons (pe_ix ix_list (pv 0) pe_int (fun _ _ => rfl)) pa_nil)) (pv 1)))
            (pss_cons (ps_asg (pe_op op_fdivW (pe_callTy call_int1 (by rfl) T.n_int PyProof.Rows.boot_int (pa_cons (pe_ix ix_list (pv 0) pe_int (fun _ _ => rfl)) pa_nil)) (pv 1)) (pg_sub (pv 0) pe_int set_list))
            (pss_one (ps_ret (pv 3))))) pss_nil)
          (pss_cons (ps_asg (pe_op op_mod (pe_callTy call_int1 (by rfl) T.n_int PyProof.Rows.boot_int (pa_cons (pe_op op_add (pe_op op_mul (pe_ix ix_list (pv 0) pe_int (fun _ _ => rfl)) pe_int) pe_int) pa_nil)) pe_int) (pg_sub (pv 0) pe_int set_list))
          (pss_one (ps_ret (pe_op op_mod (pe_callTy call_int1 (by rfl) T.n_int PyProof.Rows.boot_int (pa_cons (pe_op op_fdiv (pe_ix ix_list (pv 0) pe_int (fun _ _ => rfl)) pe_int) pa_nil)) (pv 1)))))), ?_⟩
        exact take_reads so hm q
      · rw [if_neg hm] at e; cases e
    | _ => cases e
  | _ => cases y <;> cases e

/-! _law_short -/
theorem sc__law_short : FnScope ["table", "n", "rows", "k", "i", "j", "row"] ["table"] (defScope (topS 28)) := ⟨rfl, rfl, rfl, by decide +kernel, rfl, by decide +kernel, by decide +kernel⟩
def c__law_short_1 : FE := (eLc (iSeq (eVar 0)) [6] (gN 6) bYes (eCall bListF (eAs (eVar 6) eAs0)))
def b__law_short_2 : FS := (sSub2 2 (eVar 4) (eVar 5) (eCall bMin2 (eAs (e2 dIx (e2 dIx (eVar 2) (eVar 4)) (eVar 5)) (eAs (e2 dAdd (e2 dIx (e2 dIx (eVar 2) (eVar 4)) (eVar 3)) (e2 dIx (e2 dIx (eVar 2) (eVar 3)) (eVar 5))) eAs0))))
def b__law_short_3 : FS := (sFor (iOf rg1 (eAs (eVar 1) eAs0)) (gN 5) b__law_short_2)
def b__law_short_4 : FS := (sFor (iOf rg1 (eAs (eVar 1) eAs0)) (gN 4) b__law_short_3)
def c__law_short_5 : FE := (eLc (iSeq (eVar 2)) [6] (gN 6) bYes (eCall bTup (eAs (eVar 6) eAs0)))
def g__law_short : FS := (sSeq (sSet 1 (eCall bLen (eAs (eVar 0) eAs0)))
  (sSeq (sOwn 2 c__law_short_1)
  (sSeq (sFor (iOf rg1 (eAs (eVar 1) eAs0)) (gN 3) b__law_short_4)
  (sRet (eCall bTup (eAs c__law_short_5 eAs0))))))
def F__law_short : List D → M D := run 7 g__law_short
theorem ok__law_short (T : Tx K mg) : FnOk P w K mg base CX0 1 T.f__law_short T.fd__law_short ["table"] (spD 1 F__law_short) :=
  fn_ok (N := ["table", "n", "rows", "k", "i", "j", "row"]) T.F__law_short sc__law_short (by decide) (fun cdv A outer s H E hr => (show DSs _ _ g__law_short from (ds_cons (ds_set (i := 1) sc__law_short.nd rfl (by first | exact Or.inl rfl | exact Or.inr rfl) (d_bi b_len (by rfl) T.n_len PySem.boot_len (da_cons (d_var 0) da_nil)))
  (ds_cons (ds_setLc (i := 2) (own := [("row", 6)]) rfl sc__law_short.nd rfl rfl (sw_true rfl rfl rfl (by kernel_rfl)) (di_seq (d_var 0)) (blkOk_by (by kernel_rfl)) (fun _ _ _ _ _ => (dg_name (i := 6) sc__law_short.nd rfl (by first | exact Or.inl rfl | exact Or.inr rfl))) (fun _ _ _ _ _ => dts_nil) (fun _ _ _ _ _ => (df_list (by rfl) T.n_list PyProof.Rows.boot_list (da_cons (d_var 6) da_nil))))
  (ds_cons (ds_for PassesOwn.never rfl (dif_range1 (by rfl) T.n_range (da_cons (d_var 1) da_nil)) (sg_name (i := 3) sc__law_short.nd rfl (by first | exact Or.inl rfl | exact Or.inr rfl)) (show DSs _ _ b__law_short_4 from (ds_one (ds_for PassesOwn.never rfl (dif_range1 (by rfl) T.n_range (da_cons (d_var 1) da_nil)) (sg_name (i := 4) sc__law_short.nd rfl (by first | exact Or.inl rfl | exact Or.inr rfl)) (show DSs _ _ b__law_short_3 from (ds_one (ds_for PassesOwn.never rfl (dif_range1 (by rfl) T.n_range (da_cons (d_var 1) da_nil)) (sg_name (i := 5) sc__law_short.nd rfl (by first | exact Or.inl rfl | exact Or.inr rfl)) (show DSs _ _ b__law_short_2 from (ds_one (ds_sub2 (i := 2) rfl (by first | exact Or.inl rfl | exact Or.inr (Or.inl rfl)) (d_var 4) (d_var 5) (d_bi (b_min2 rfl) (by rfl) T.n_min boot_min (da_cons (d_ix o_ix (d_ix o_ix (d_var 2) (d_var 4)) (d_var 5)) (da_cons (d_op o_add (d_ix o_ix (d_ix o_ix (d_var 2) (d_var 4)) (d_var 3)) (d_ix o_ix (d_ix o_ix (d_var 2) (d_var 3)) (d_var 5))) da_nil)))))))))))))
  (ds_one (ds_ret (d_ty b_tup (by rfl) T.n_tuple PyProof.Rows.boot_tuple (da_cons (d_lc (own := [("row", 6)]) rfl sc__law_short.nd (di_seq (d_var 2)) (blkOk_by (by kernel_rfl)) (fun _ _ _ _ _ => (dg_name (i := 6) sc__law_short.nd rfl (by first | exact Or.inl rfl | exact Or.inr rfl))) (fun _ _ _ _ _ => dts_nil) (fun _ _ _ _ _ => (d_ty b_tup (by rfl) T.n_tuple PyProof.Rows.boot_tuple (da_cons (d_var 6) da_nil)))) da_nil)))))))))
/-! _law_table -/
theorem sc__law_table : FnScope ["d", "n", "top", "rows", "i", "j", "k", "row"] ["d", "n", "top"] (defScope (topS 29)) := ⟨rfl, rfl, rfl, by decide +kernel, rfl, by decide +kernel, by decide +kernel⟩
def c__law_table_1 : FE := (eLc (iOf rg1 (eAs (eVar 1) eAs0)) [6] (gN 6) bYes (eRepF (eLst (eAs (eC (.int 0)) eAs0)) (eVar 1)))
def b__law_table_2 : FS := (sSeq (sSub2 3 (eVar 4) (eVar 5) (e2 dAdd (eC (.int 1)) (eFn (fun ds => if ds.length = 2 then F__law_take ds else M.no) (eAs (eVar 0) (eAs (eVar 2) eAs0)))))
  (sSub2 3 (eVar 5) (eVar 4) (e2 dIx (e2 dIx (eVar 3) (eVar 4)) (eVar 5))))
def b__law_table_3 : FS := (sFor (iOf rg1 (eAs (eVar 4) eAs0)) (gN 5) b__law_table_2)
def c__law_table_4 : FE := (eLc (iSeq (eVar 3)) [7] (gN 7) bYes (eCall bTup (eAs (eVar 7) eAs0)))
def g__law_table : FS := (sSeq (sOwn 3 c__law_table_1)
  (sSeq (sFor (iOf rg1 (eAs (eVar 1) eAs0)) (gN 4) b__law_table_3)
  (sRet (eCall bTup (eAs c__law_table_4 eAs0)))))
def F__law_table : List D → M D := run 8 g__law_table
theorem ok__law_table (T : Tx K mg) : FnOk P w K mg base CX0 2 T.f__law_table T.fd__law_table ["d", "n", "top"] (spD 3 F__law_table) :=
  fn_ok (N := ["d", "n", "top", "rows", "i", "j", "k", "row"]) T.F__law_table sc__law_table (by decide) (fun cdv A outer s H E hr => (show DSs _ _ g__law_table from (ds_cons (ds_setLc (i := 3) (own := [("k", 6)]) rfl sc__law_table.nd rfl rfl (sw_true rfl rfl rfl (by kernel_rfl)) (dif (dif_range1 (by rfl) T.n_range (da_cons (d_var 1) da_nil))) (blkOk_by (by kernel_rfl)) (fun _ _ _ _ _ => (dg_name (i := 6) sc__law_table.nd rfl (by first | exact Or.inl rfl | exact Or.inr rfl))) (fun _ _ _ _ _ => dts_nil) (fun _ _ _ _ _ => (df_rep (d_lst (da_cons d_int da_nil)) (d_var 1))))
  (ds_cons (ds_for PassesOwn.never rfl (dif_range1 (by rfl) T.n_range (da_cons (d_var 1) da_nil)) (sg_name (i := 4) sc__law_table.nd rfl (by first | exact Or.inl rfl | exact Or.inr rfl)) (show DSs _ _ b__law_table_3 from (ds_one (ds_for PassesOwn.never rfl (dif_range1 (by rfl) T.n_range (da_cons (d_var 4) da_nil)) (sg_name (i := 5) sc__law_table.nd rfl (by first | exact Or.inl rfl | exact Or.inr rfl)) (show DSs _ _ b__law_table_2 from (ds_cons (ds_sub2 (i := 3) rfl (by first | exact Or.inl rfl | exact Or.inr (Or.inl rfl)) (d_var 4) (d_var 5) (d_op o_add d_int (d_fn (n := 2) ((ok__law_take T).mono (by decide)) hr rfl T.g__law_take T.F__law_take.kp T.b__law_take pass0 (da_cons (d_var 0) (da_cons (d_var 2) da_nil)))))
  (ds_one (ds_sub2 (i := 3) rfl (by first | exact Or.inl rfl | exact Or.inr (Or.inl rfl)) (d_var 5) (d_var 4) (d_ix o_ix (d_ix o_ix (d_var 3) (d_var 4)) (d_var 5))))))))))
  (ds_one (ds_ret (d_ty b_tup (by rfl) T.n_tuple PyProof.Rows.boot_tuple (da_cons (d_lc (own := [("row", 7)]) rfl sc__law_table.nd (di_seq (d_var 3)) (blkOk_by (by kernel_rfl)) (fun _ _ _ _ _ => (dg_name (i := 7) sc__law_table.nd rfl (by first | exact Or.inl rfl | exact Or.inr rfl))) (fun _ _ _ _ _ => dts_nil) (fun _ _ _ _ _ => (d_ty b_tup (by rfl) T.n_tuple PyProof.Rows.boot_tuple (da_cons (d_var 7) da_nil)))) da_nil))))))))
/-! _law_pick -/
theorem sc__law_pick : FnScope ["d", "menu"] ["d", "menu"] (defScope (topS 30)) := ⟨rfl, rfl, rfl, by decide +kernel, rfl, by decide +kernel, by decide +kernel⟩
def g__law_pick : FS := (sRet (e2 dIx (eVar 1) (eFn (fun ds => if ds.length = 2 then F__law_take ds else M.no) (eAs (eVar 0) (eAs (eCall bLen (eAs (eVar 1) eAs0)) eAs0)))))
def F__law_pick : List D → M D := run 2 g__law_pick
theorem ok__law_pick (T : Tx K mg) : FnOk P w K mg base CX0 2 T.f__law_pick T.fd__law_pick ["d", "menu"] (spD 2 F__law_pick) :=
  fn_ok (N := ["d", "menu"]) T.F__law_pick sc__law_pick (by decide) (fun cdv A outer s H E hr => (show DSs _ _ g__law_pick from (ds_one (ds_ret (d_ix o_ix (d_var 1) (d_fn (n := 2) ((ok__law_take T).mono (by decide)) hr rfl T.g__law_take T.F__law_take.kp T.b__law_take pass0 (da_cons (d_var 0) (da_cons (d_bi b_len (by rfl) T.n_len PySem.boot_len (da_cons (d_var 1) da_nil)) da_nil))))))))
/-! law -/
theorem sc_law : FnScope ["script", "d", "n", "table", "rows", "row", "few", "gaps", "own", "low", "some", "wide", "line", "other", "k", "a", "b", "x"] ["script"] (defScope (topS 31)) := ⟨rfl, rfl, rfl, by decide +kernel, rfl, by decide +kernel, by decide +kernel⟩
def c_law_1 : FE := (eLc (iSeq (eVar 3)) [12] (gN 12) bYes (e2 dInD (eVar 12) (eVar 4)))
def c_law_2 : FE := (eLc (iOf rg1 (eAs (eVar 2) eAs0)) [14] (gN 14) bYes (e2 dLe (e2 dIx (eVar 13) (eVar 14)) (e2 dIx (eVar 5) (eVar 14))))
def c_law_3 : FE := (eLc (iSeq (eVar 4)) [13] (gN 13) bYes (eAnd (e2 dNe (eVar 13) (eVar 5)) (eCall bAll (eAs c_law_2 eAs0))))
def c_law_4 : FE := (eLc (iOf rg1 (eAs (eVar 2) eAs0)) [14] (gN 14) bYes (e2 dNe (eFn (fun ds => if ds.length = 2 then F_greatest_gap ds else M.no) (eAs (eVar 5) (eAs (e2 dIx (eVar 3) (eVar 14)) eAs0))) (e2 dIx (eVar 5) (eVar 14))))
def b_law_5 : FS := (sSeq (sIf (bAnd (bOf (e2 dGt (eCall bMinS (eAs (eVar 5) eAs0)) (eC (.int 0)))) (bOf (e2 dNe (eFn (fun ds => if ds.length = 2 then F_more_paper ds else M.no) (eAs (eVar 3) (eAs (eVar 5) eAs0))) (eTup (eAs (eC (.str "fits")) eAs0))))) (sRet (eC (.bl false))) sNil)
  (sSeq (sIf (bTr (eCall bAny (eAs c_law_3 eAs0))) (sRet (eC (.bl false))) sNil)
  (sIf (bTr (eCall bAny (eAs c_law_4 eAs0))) (sRet (eC (.bl false))) sNil)))
def c_law_6 : FE := (eLc (iSeq (eVar 6)) [16] (gN 16) bYes (eFn (fun ds => if ds.length = 2 then F_greatest_gap ds else M.no) (eAs (eVar 15) (eAs (eVar 16) eAs0))))
def c_law_7 : FE := (eLc (iSeq (eVar 6)) [15] (gN 15) bYes (eCall bTup (eAs c_law_6 eAs0)))
def c_law_8 : FE := (eLc (iSeq (eVar 3)) [16] (gN 16) bYes (eFn (fun ds => if ds.length = 2 then F_greatest_gap ds else M.no) (eAs (eVar 15) (eAs (eVar 16) eAs0))))
def c_law_9 : FE := (eLc (iSeq (eVar 3)) [15] (gN 15) bYes (eCall bTup (eAs c_law_8 eAs0)))
def c_law_10 : FE := (eLc (iOf rg1 (eAs (eVar 2) eAs0)) [14] (gN 14) bYes (e2 dAdd (eCall bMaxS (eAs (e2 dIx (eVar 3) (eVar 14)) eAs0)) (eFn (fun ds => if ds.length = 2 then F__law_take ds else M.no) (eAs (eVar 1) (eAs (eC (.int 3)) eAs0)))))
def c_law_11 : FE := (eLc (iSeq (eVar 5)) [17] (gN 17) bYes (e2 dAdd (eVar 17) (eC (.int 1))))
def c_law_12 : FE := (eLc (iOf rg1 (eAs (eVar 2) eAs0)) [14] (gN 14) bYes (e2 dGt (e2 dIx (eVar 9) (eVar 14)) (e2 dIx (eVar 5) (eVar 14))))
def g_law : FS := (sSeq (sSet 2 (e2 dAdd (eC (.int 1)) (eFn (fun ds => if ds.length = 2 then F__law_take ds else M.no) (eAs (eVar 1) (eAs (eC (.int 4)) eAs0)))))
  (sSeq (sSet 3 (eFn (fun ds => if ds.length = 1 then F__law_short ds else M.no) (eAs (eFn (fun ds => if ds.length = 3 then F__law_table ds else M.no) (eAs (eVar 1) (eAs (eVar 2) (eAs (eFn (fun ds => if ds.length = 2 then F__law_pick ds else M.no) (eAs (eVar 1) (eAs (eLst (eAs (eC (.int 2)) (eAs (eC (.int 4)) eAs0))) eAs0))) eAs0)))) eAs0)))
  (sSeq (sSet 4 (eFn (fun ds => if ds.length = 1 then F_least_rows ds else M.no) (eAs (eVar 3) eAs0)))
  (sSeq (sIf (bNot (bTr (eCall bAll (eAs c_law_1 eAs0)))) (sRet (eC (.bl false))) sNil)
  (sSeq (sFor (iSeqT (eVar 4)) (gN 5) b_law_5)
  (sSeq (sSet 6 (eSl (eVar 4) fNo (fSo (eC (.int 7)))))
  (sSeq (sSet 7 (eCall bTup (eAs c_law_7 eAs0)))
  (sSeq (sIf (bOf (e2 dNe (eFn (fun ds => if ds.length = 1 then F_distance_paper ds else M.no) (eAs (eVar 7) eAs0)) (eTup (eAs (eC (.str "distances")) eAs0)))) (sRet (eC (.bl false))) sNil)
  (sSeq (sSet 8 (eCall bTup (eAs c_law_9 eAs0)))
  (sSeq (sIf (bOf (e2 dNe (eVar 8) (eVar 3))) (sRet (eC (.bl false))) sNil)
  (sSeq (sSet 5 (eCall bTup (eAs c_law_10 eAs0)))
  (sSeq (sIf (bOf (e2 dEq (eCall bMinS (eAs (eVar 5) eAs0)) (eC (.int 0)))) (sSet 5 (eCall bTup (eAs c_law_11 eAs0))) sNil)
  (sSeq (sSet 9 (eFn (fun ds => if ds.length = 2 then F_lowered ds else M.no) (eAs (eVar 3) (eAs (eVar 5) eAs0))))
  (sSeq (sIf (bOr (bOf (e2 dNotInD (eVar 9) (eVar 4))) (bOr (bTr (eCall bAny (eAs c_law_12 eAs0))) (bOf (e2 dNe (e2 dIx (eFn (fun ds => if ds.length = 2 then F_least_paper ds else M.no) (eAs (eVar 3) (eAs (eVar 9) eAs0))) (eC (.int 0))) (eC (.str "least")))))) (sRet (eC (.bl false))) sNil)
  (sSeq (sSet 10 (eFn (fun ds => if ds.length = 2 then F__law_pick ds else M.no) (eAs (eVar 1) (eAs (eVar 4) eAs0))))
  (sSeq (sIf (bOf (e2 dNe (eFn (fun ds => if ds.length = 2 then F_lowered ds else M.no) (eAs (eVar 3) (eAs (eVar 10) eAs0))) (eVar 10))) (sRet (eC (.bl false))) sNil)
  (sSeq (sIf (bAnd (bOf (e2 dGt (eCall bMinS (eAs (eVar 10) eAs0)) (eC (.int 0)))) (bOf (e2 dLt (eVar 2) (eC (.int 8))))) (sSeq (sSet 11 (eFn (fun ds => if ds.length = 2 then F_with_point ds else M.no) (eAs (eVar 3) (eAs (eVar 10) eAs0))))
  (sIf (bOr (bOf (e2 dNe (eFn (fun ds => if ds.length = 1 then F_distance_paper ds else M.no) (eAs (eVar 11) eAs0)) (eTup (eAs (eC (.str "distances")) eAs0)))) (bOf (e2 dNe (e2 dIx (eFn (fun ds => if ds.length = 2 then F_least_paper ds else M.no) (eAs (eVar 11) (eAs (e2 dAdd (eVar 10) (eTup (eAs (eC (.int 0)) eAs0))) eAs0))) (eC (.int 0))) (eC (.str "least"))))) (sRet (eC (.bl false))) sNil)) sNil)
  (sRet (eC (.bl true))))))))))))))))))))
theorem law_body (T : Tx K mg) {k : Nat} (hk : 6 ≤ k) (cdv : Value) (A : Around) (outer : List Env) (s : Shared) (H : Hp) (E : XK) {f : Addr} (hr0 : Room k (A.deeper (envOfC "law" (defScope (topS 31)) s.heap.objs.size f cdv))) :
    DSs (cxOf CX0 P w K mg base ["script", "d", "n", "table", "rows", "row", "few", "gaps", "own", "low", "some", "wide", "line", "other", "k", "a", "b", "x"] "law" (defScope (topS 31)) f cdv A outer s H E).nox ((defBody (topS 31)).drop 1) g_law := by
  have hr := hr0.mono hk
  exact (show DSs _ _ g_law from (ds_cons (ds_set (i := 2) sc_law.nd rfl (by first | exact Or.inl rfl | exact Or.inr rfl) (d_op o_add d_int (d_fn (n := 2) ((ok__law_take T).mono (by decide)) hr rfl T.g__law_take T.F__law_take.kp T.b__law_take pass0 (da_cons (d_var 1) (da_cons d_int da_nil)))))
  (ds_cons (ds_set (i := 3) sc_law.nd rfl (by first | exact Or.inl rfl | exact Or.inr rfl) (d_fn (n := 1) ((ok__law_short T).mono (by decide)) hr rfl T.g__law_short T.F__law_short.kp T.b__law_short pass0 (da_cons (d_fn (n := 3) ((ok__law_table T).mono (by decide)) hr rfl T.g__law_table T.F__law_table.kp T.b__law_table pass0 (da_cons (d_var 1) (da_cons (d_var 2) (da_cons (d_fn (n := 2) ((ok__law_pick T).mono (by decide)) hr rfl T.g__law_pick T.F__law_pick.kp T.b__law_pick pass0 (da_cons (d_var 1) (da_cons (d_lst (da_cons d_int (da_cons d_int da_nil))) da_nil))) da_nil)))) da_nil)))
  (ds_cons (ds_set (i := 4) sc_law.nd rfl (by first | exact Or.inl rfl | exact Or.inr rfl) (d_fn (n := 1) ((ok_least_rows T).mono (by decide)) hr rfl T.g_least_rows T.F_least_rows.kp T.b_least_rows pass0 (da_cons (d_var 3) da_nil)))
  (ds_cons (ds_if (dt_not (dt_tr (d_bi (b_all rfl) (by rfl) T.n_all boot_all (da_cons (d_lc (own := [("line", 12)]) rfl sc_law.nd (di_seq (d_var 3)) (blkOk_by (by kernel_rfl)) (fun _ _ _ _ _ => (dg_name (i := 12) sc_law.nd rfl (by first | exact Or.inl rfl | exact Or.inr rfl))) (fun _ _ _ _ _ => dts_nil) (fun _ _ _ _ _ => (d_cmp (o_inD hr.units) (d_var 12) (d_var 4)))) da_nil)))) (ds_one (ds_ret d_bl)) ds_nil)
  (ds_cons (ds_for PassesOwn.never rfl (dif_seq (d_var 4)) (sg_name (i := 5) sc_law.nd rfl (by first | exact Or.inl rfl | exact Or.inr rfl)) (show DSs _ _ b_law_5 from (ds_cons (ds_if (PW.pt (dw_and (dt_cmp o_gt (d_bi (b_minS rfl) (by rfl) T.n_min boot_min (da_cons (d_var 5) da_nil)) d_int) (dw_and1 (dt_cmp (o_ne hr.units) (d_fn (n := 2) ((ok_more_paper T).mono (by decide)) hr rfl T.g_more_paper T.F_more_paper.kp T.b_more_paper pass0 (da_cons (d_var 3) (da_cons (d_var 5) da_nil))) (d_tup (da_cons d_str da_nil)))))) (ds_one (ds_ret d_bl)) ds_nil)
  (ds_cons (ds_if (dt_tr (d_bi (b_any rfl) (by rfl) T.n_any boot_any (da_cons (d_lc (own := [("other", 13)]) rfl sc_law.nd (di_seq (d_var 4)) (blkOk_by (by kernel_rfl)) (fun _ _ _ _ _ => (dg_name (i := 13) sc_law.nd rfl (by first | exact Or.inl rfl | exact Or.inr rfl))) (fun _ _ _ _ _ => dts_nil) (fun _ _ _ _ _ => (d_and (d_cmp (o_ne hr.units) (d_var 13) (d_var 5)) (d_one (d_bi (b_all rfl) (by rfl) T.n_all boot_all (da_cons (d_lc (own := [("k", 14)]) rfl sc_law.nd (dif (dif_range1 (by rfl) T.n_range (da_cons (d_var 2) da_nil))) (blkOk_by (by kernel_rfl)) (fun _ _ _ _ _ => (dg_name (i := 14) sc_law.nd rfl (by first | exact Or.inl rfl | exact Or.inr rfl))) (fun _ _ _ _ _ => dts_nil) (fun _ _ _ _ _ => (d_cmp o_le (d_ix o_ix (d_var 13) (d_var 14)) (d_ix o_ix (d_var 5) (d_var 14))))) da_nil)))))) da_nil))) (ds_one (ds_ret d_bl)) ds_nil)
  (ds_one (ds_if (dt_tr (d_bi (b_any rfl) (by rfl) T.n_any boot_any (da_cons (d_lc (own := [("k", 14)]) rfl sc_law.nd (dif (dif_range1 (by rfl) T.n_range (da_cons (d_var 2) da_nil))) (blkOk_by (by kernel_rfl)) (fun _ _ _ _ _ => (dg_name (i := 14) sc_law.nd rfl (by first | exact Or.inl rfl | exact Or.inr rfl))) (fun _ _ _ _ _ => dts_nil) (fun _ _ _ _ _ => (d_cmp (o_ne hr.units) (d_fn (n := 2) ((ok_greatest_gap T).mono (by decide)) hr rfl T.g_greatest_gap T.F_greatest_gap.kp T.b_greatest_gap pass0 (da_cons (d_var 5) (da_cons (d_ix o_ix (d_var 3) (d_var 14)) da_nil))) (d_ix o_ix (d_var 5) (d_var 14))))) da_nil))) (ds_one (ds_ret d_bl)) ds_nil))))))
  (ds_cons (ds_set (i := 6) sc_law.nd rfl (by first | exact Or.inl rfl | exact Or.inr rfl) (d_sl (d_var 4) do_none (do_some d_int)))
  (ds_cons (ds_set (i := 7) sc_law.nd rfl (by first | exact Or.inl rfl | exact Or.inr rfl) (d_ty b_tup (by rfl) T.n_tuple PyProof.Rows.boot_tuple (da_cons (d_lc (own := [("a", 15)]) rfl sc_law.nd (di_seq (d_var 6)) (blkOk_by (by kernel_rfl)) (fun _ _ _ _ _ => (dg_name (i := 15) sc_law.nd rfl (by first | exact Or.inl rfl | exact Or.inr rfl))) (fun _ _ _ _ _ => dts_nil) (fun _ _ _ _ _ => (d_ty b_tup (by rfl) T.n_tuple PyProof.Rows.boot_tuple (da_cons (d_lc (own := [("b", 16)]) rfl sc_law.nd (di_seq (d_var 6)) (blkOk_by (by kernel_rfl)) (fun _ _ _ _ _ => (dg_name (i := 16) sc_law.nd rfl (by first | exact Or.inl rfl | exact Or.inr rfl))) (fun _ _ _ _ _ => dts_nil) (fun _ _ _ _ _ => (d_fn (n := 2) ((ok_greatest_gap T).mono (by decide)) hr rfl T.g_greatest_gap T.F_greatest_gap.kp T.b_greatest_gap pass0 (da_cons (d_var 15) (da_cons (d_var 16) da_nil))))) da_nil)))) da_nil)))
  (ds_cons (ds_if (dt_cmp (o_ne hr.units) (d_fn (n := 1) ((ok_distance_paper T).mono (by decide)) hr rfl T.g_distance_paper T.F_distance_paper.kp T.b_distance_paper pass0 (da_cons (d_var 7) da_nil)) (d_tup (da_cons d_str da_nil))) (ds_one (ds_ret d_bl)) ds_nil)
  (ds_cons (ds_set (i := 8) sc_law.nd rfl (by first | exact Or.inl rfl | exact Or.inr rfl) (d_ty b_tup (by rfl) T.n_tuple PyProof.Rows.boot_tuple (da_cons (d_lc (own := [("a", 15)]) rfl sc_law.nd (di_seq (d_var 3)) (blkOk_by (by kernel_rfl)) (fun _ _ _ _ _ => (dg_name (i := 15) sc_law.nd rfl (by first | exact Or.inl rfl | exact Or.inr rfl))) (fun _ _ _ _ _ => dts_nil) (fun _ _ _ _ _ => (d_ty b_tup (by rfl) T.n_tuple PyProof.Rows.boot_tuple (da_cons (d_lc (own := [("b", 16)]) rfl sc_law.nd (di_seq (d_var 3)) (blkOk_by (by kernel_rfl)) (fun _ _ _ _ _ => (dg_name (i := 16) sc_law.nd rfl (by first | exact Or.inl rfl | exact Or.inr rfl))) (fun _ _ _ _ _ => dts_nil) (fun _ _ _ _ _ => (d_fn (n := 2) ((ok_greatest_gap T).mono (by decide)) hr rfl T.g_greatest_gap T.F_greatest_gap.kp T.b_greatest_gap pass0 (da_cons (d_var 15) (da_cons (d_var 16) da_nil))))) da_nil)))) da_nil)))
  (ds_cons (ds_if (dt_cmp (o_ne hr.units) (d_var 8) (d_var 3)) (ds_one (ds_ret d_bl)) ds_nil)
  (ds_cons (ds_set (i := 5) sc_law.nd rfl (by first | exact Or.inl rfl | exact Or.inr rfl) (d_ty b_tup (by rfl) T.n_tuple PyProof.Rows.boot_tuple (da_cons (d_lc (own := [("k", 14)]) rfl sc_law.nd (dif (dif_range1 (by rfl) T.n_range (da_cons (d_var 2) da_nil))) (blkOk_by (by kernel_rfl)) (fun _ _ _ _ _ => (dg_name (i := 14) sc_law.nd rfl (by first | exact Or.inl rfl | exact Or.inr rfl))) (fun _ _ _ _ _ => dts_nil) (fun _ _ _ _ _ => (d_op o_add (d_bi (b_maxS rfl) (by rfl) T.n_max boot_max (da_cons (d_ix o_ix (d_var 3) (d_var 14)) da_nil)) (d_fn (n := 2) ((ok__law_take T).mono (by decide)) hr rfl T.g__law_take T.F__law_take.kp T.b__law_take pass0 (da_cons (d_var 1) (da_cons d_int da_nil)))))) da_nil)))
  (ds_cons (ds_if (dt_cmp (o_eq hr.units) (d_bi (b_minS rfl) (by rfl) T.n_min boot_min (da_cons (d_var 5) da_nil)) d_int) (ds_one (ds_set (i := 5) sc_law.nd rfl (by first | exact Or.inl rfl | exact Or.inr rfl) (d_ty b_tup (by rfl) T.n_tuple PyProof.Rows.boot_tuple (da_cons (d_lc (own := [("x", 17)]) rfl sc_law.nd (di_seq (d_var 5)) (blkOk_by (by kernel_rfl)) (fun _ _ _ _ _ => (dg_name (i := 17) sc_law.nd rfl (by first | exact Or.inl rfl | exact Or.inr rfl))) (fun _ _ _ _ _ => dts_nil) (fun _ _ _ _ _ => (d_op o_add (d_var 17) d_int))) da_nil)))) ds_nil)
  (ds_cons (ds_set (i := 9) sc_law.nd rfl (by first | exact Or.inl rfl | exact Or.inr rfl) (d_fn (n := 2) ((ok_lowered T).mono (by decide)) hr rfl T.g_lowered T.F_lowered.kp T.b_lowered pass0 (da_cons (d_var 3) (da_cons (d_var 5) da_nil))))
  (ds_cons (ds_if (PW.pt (dw_or (dt_cmp (o_notInD hr.units) (d_var 9) (d_var 4)) (dw_or (dt_tr (d_bi (b_any rfl) (by rfl) T.n_any boot_any (da_cons (d_lc (own := [("k", 14)]) rfl sc_law.nd (dif (dif_range1 (by rfl) T.n_range (da_cons (d_var 2) da_nil))) (blkOk_by (by kernel_rfl)) (fun _ _ _ _ _ => (dg_name (i := 14) sc_law.nd rfl (by first | exact Or.inl rfl | exact Or.inr rfl))) (fun _ _ _ _ _ => dts_nil) (fun _ _ _ _ _ => (d_cmp o_gt (d_ix o_ix (d_var 9) (d_var 14)) (d_ix o_ix (d_var 5) (d_var 14))))) da_nil))) (dw_or1 (dt_cmp (o_ne hr.units) (d_ix o_ix (d_fn (n := 2) ((ok_least_paper T).mono (by decide)) hr rfl T.g_least_paper T.F_least_paper.kp T.b_least_paper pass0 (da_cons (d_var 3) (da_cons (d_var 9) da_nil))) d_int) d_str))))) (ds_one (ds_ret d_bl)) ds_nil)
  (ds_cons (ds_set (i := 10) sc_law.nd rfl (by first | exact Or.inl rfl | exact Or.inr rfl) (d_fn (n := 2) ((ok__law_pick T).mono (by decide)) hr rfl T.g__law_pick T.F__law_pick.kp T.b__law_pick pass0 (da_cons (d_var 1) (da_cons (d_var 4) da_nil))))
  (ds_cons (ds_if (dt_cmp (o_ne hr.units) (d_fn (n := 2) ((ok_lowered T).mono (by decide)) hr rfl T.g_lowered T.F_lowered.kp T.b_lowered pass0 (da_cons (d_var 3) (da_cons (d_var 10) da_nil))) (d_var 10)) (ds_one (ds_ret d_bl)) ds_nil)
  (ds_cons (ds_if (PW.pt (dw_and (dt_cmp o_gt (d_bi (b_minS rfl) (by rfl) T.n_min boot_min (da_cons (d_var 10) da_nil)) d_int) (dw_and1 (dt_cmp o_lt (d_var 2) d_int)))) (ds_cons (ds_set (i := 11) sc_law.nd rfl (by first | exact Or.inl rfl | exact Or.inr rfl) (d_fn (n := 2) ((ok_with_point T).mono (by decide)) hr rfl T.g_with_point T.F_with_point.kp T.b_with_point pass0 (da_cons (d_var 3) (da_cons (d_var 10) da_nil))))
  (ds_one (ds_if (PW.pt (dw_or (dt_cmp (o_ne hr.units) (d_fn (n := 1) ((ok_distance_paper T).mono (by decide)) hr rfl T.g_distance_paper T.F_distance_paper.kp T.b_distance_paper pass0 (da_cons (d_var 11) da_nil)) (d_tup (da_cons d_str da_nil))) (dw_or1 (dt_cmp (o_ne hr.units) (d_ix o_ix (d_fn (n := 2) ((ok_least_paper T).mono (by decide)) hr rfl T.g_least_paper T.F_least_paper.kp T.b_least_paper pass0 (da_cons (d_var 11) (da_cons (d_op o_add (d_var 10) (d_tup (da_cons d_int da_nil))) da_nil))) d_int) d_str)))) (ds_one (ds_ret d_bl)) ds_nil))) ds_nil)
  (ds_one (ds_ret d_bl))))))))))))))))))))
end
section
variable {P : Program} {w : World} {K : PySem.W.Frag} {mg : Str → Option Value} {base : Heap}
theorem sc__law_begin : FnScope ["script", "seed", "cell"] ["script"] (defScope (topS 26)) := ⟨rfl, rfl, rfl, by decide +kernel, rfl, by decide +kernel, by decide +kernel⟩
theorem ok__law_begin (T : Tx K mg) : FnOk P w K mg base CX0 1 T.f__law_begin T.fd__law_begin ["script"] (spBegin K) := by
  refine T.F__law_begin.ok sc__law_begin (fun vs H Q E ⟨a, ns, e, _⟩ => by rw [e]; rfl) (fun cdv A outer s H vs Q E hr h => ?_)
  have sl := sc__law_begin.nd
  exact ⟨_, pss_cons (ps_set (i := 1) sl rfl (Or.inl rfl) pe_int)
    (pss_cons (ps_for PassesOwn.never rfl (pi_list (pv 0)) (pg_name (i := 2) sl rfl (Or.inl rfl)) (pss_one (ps_set (i := 1) sl rfl (Or.inl rfl)
      (pe_op op_mod (pe_op op_add (pe_op op_add (pe_op op_mul (pv 1) pe_int) (pe_op op_mod (pe_callTy call_int1 (by rfl) T.n_int PyProof.Rows.boot_int (pa_cons (pv 2) pa_nil)) pe_int)) pe_int) pe_int))))
    (pss_one (ps_ret (pe_lst (pa_cons (pe_callTy call_list_of (by rfl) T.n_list PyProof.Rows.boot_list (pa_cons (pv 0) pa_nil)) (pa_cons pe_int (pa_cons pe_int (pa_cons (pv 1) pa_nil)))))))), begin_reads h⟩
theorem ok_law (T : Tx K mg) {f : Addr} {fd : FuncData} (F : Fun K "law" "law" (topS 31) f fd)
    (hg : ∀ st : Src, ∃ st', g_law (.no :: .rd .src :: List.replicate 16 .no) st = some (.rt (.bl true), st')) : FnOk P w K mg base CX0 7 f fd ["script"] (spLaw K) := by
  refine F.ok sc_law (fun vs H Q E ⟨a, ns, e, _⟩ => by rw [e]; rfl) (fun cdv A outer s H vs Q E hr h => ?_)
  obtain ⟨a, ns, rfl, hS, hl, q⟩ := h
  have G := (ok__law_begin (P := P) (w := w) (base := base) T).mono (show 1 ≤ 6 by decide)
  refine ⟨_, show PSs _ ((defBody (topS 31)).head (by decide +kernel) :: (defBody (topS 31)).drop 1) _ from pss_cons (ps_set (i := 1) sc_law.nd rfl (by first | exact Or.inl rfl | exact Or.inr rfl) (pe_call G hr rfl T.g__law_begin T.F__law_begin.kp T.b__law_begin .nil pass0 (pa_cons (pv 0) pa_nil))) (law_body T (Nat.le_refl 6) cdv A outer s H E hr), ?_⟩
  refine ⟨.ref a, rfl, a, ns, rfl, hS, hl, fun H' p q' seed hp hq hpq h1 h2 => ?_⟩
  exact law_reads (n := 16) hpq h1 h2 hg q
end
end K38
set_option Elab.async false
set_option linter.all false
set_option maxRecDepth 100000
set_option maxHeartbeats 400000
/-! DI: rows and tables of numbers as data; more reckoning. -/
namespace DL
open PySem PySem.Spec PyProof.Rows L2

/-! ### rows and tables -/
def wI (w : List Int) : D := .tup (w.map .int)
def tB (T : List (List Int)) : D := .tup (T.map wI)
def el (r : List Int) (i : Nat) : Int := (r[i]?).getD 0
def ro (T : List (List Int)) (i : Nat) : List Int := (T[i]?).getD []
def tl (T : List (List Int)) (i j : Nat) : Int := el (ro T i) j
structure Sq (T : List (List Int)) (n : Nat) : Prop where
  len : T.length = n
  row : ∀ r ∈ T, r.length = n
theorem Sq.at_ {T : List (List Int)} {n i : Nat} (h : Sq T n) (hi : i < n) : T[i]? = some (ro T i) := by
  have hl : i < T.length := by rw [h.len]; exact hi
  unfold ro
  rw [List.getElem?_eq_getElem hl]; rfl
theorem Sq.rlen {T : List (List Int)} {n i : Nat} (h : Sq T n) (hi : i < n) : (ro T i).length = n := h.row _ (List.mem_of_getElem? (h.at_ hi))
theorem el_at {r : List Int} {i : Nat} (hi : i < r.length) : r[i]? = some (el r i) := by
  unfold el
  rw [List.getElem?_eq_getElem hi]; rfl
theorem row_ext {r s : List Int} (hl : r.length = s.length) (h : ∀ i, i < r.length → el r i = el s i) : r = s := by
  refine List.ext_getElem? fun i => ?_
  by_cases hi : i < r.length
  · rw [el_at hi, el_at (by omega), h i hi]
  · rw [List.getElem?_eq_none (by omega), List.getElem?_eq_none (by omega)]
theorem mem_el {r : List Int} {x : Int} (h : x ∈ r) : ∃ i, i < r.length ∧ el r i = x := by
  obtain ⟨i, hi, e⟩ := List.getElem_of_mem h
  exact ⟨i, hi, by unfold el; rw [List.getElem?_eq_getElem hi, e]; rfl⟩
theorem el_mem {r : List Int} {i : Nat} (hi : i < r.length) : el r i ∈ r := List.mem_of_getElem? (el_at hi)
@[simp] theorem lf_wI (w : List Int) : (wI w).lf = true := by simp [wI]
@[simp] theorem lfs_wI (T : List (List Int)) : lfs (T.map wI) = true := lfs_map lf_wI T
@[simp] theorem lf_tB (T : List (List Int)) : (tB T).lf = true := by simp [tB]
@[simp] theorem isi_wI (T : String) (w : List Int) : isiD T (wI w) = some (.bl (isTy "tuple" T)) := rfl
@[simp] theorem isi_tB (T : String) (w : List (List Int)) : isiD T (tB w) = some (.bl (isTy "tuple" T)) := rfl
@[simp] theorem len_wI (w : List Int) : bLen [wI w] = some (.int w.length) := by simp [wI]
@[simp] theorem len_tB (w : List (List Int)) : bLen [tB w] = some (.int w.length) := by simp [tB]
@[simp] theorem items_wI (w : List Int) : (wI w).items = some (w.map D.int) := rfl
@[simp] theorem items_tB (w : List (List Int)) : (tB w).items = some (w.map wI) := rfl
@[simp] theorem lfT_wI (w : List Int) : lfT (wI w) = some (w.map D.int) := by simp [wI]
@[simp] theorem lfT_tB (w : List (List Int)) : lfT (tB w) = some (w.map wI) := by simp [tB]
theorem wI_at {r : List Int} {i : Nat} (hi : i < r.length) : dIx (wI r) (.int (i : Nat)) = some (.int (el r i)) := at_nat (by rw [List.getElem?_map, el_at hi]; rfl)
theorem tB_at {T : List (List Int)} {n i : Nat} (h : Sq T n) (hi : i < n) : dIx (tB T) (.int (i : Nat)) = some (wI (ro T i)) := at_nat (by rw [List.getElem?_map, h.at_ hi]; rfl)
theorem tB_at2 {T : List (List Int)} {n i j : Nat} (h : Sq T n) (hi : i < n) (hj : j < n) : dIx (wI (ro T i)) (.int (j : Nat)) = some (.int (tl T i j)) := wI_at (by rw [h.rlen hi]; exact hj)
theorem eq_wI (a b : List Int) : dEq (wI a) (wI b) = some (.bl (decide (a = b))) := eq_ints a b
theorem ne_wI (a b : List Int) : dNe (wI a) (wI b) = some (.bl (!decide (a = b))) := ne_ints a b
theorem add_wI (a b : List Int) (h : a.length + b.length ≤ 1000) : dAdd (wI a) (wI b) = some (wI (a ++ b)) := by
  unfold wI
  rw [add_tup, if_pos (by rw [List.length_map, List.length_map]; omega), List.map_append]
theorem intL_ints (l : List Int) : intL (l.map D.int) = some l := by
  have := intL_map (fun i : Int => i) l
  simpa using this
theorem max_wI {r : List Int} (h : r ≠ []) : bMaxS [wI r] = some (.int (mxI r)) := by
  show ((some (r.map D.int)).bind intL).bind _ = _
  rw [Option.bind_some, intL_ints, Option.bind_some, if_neg (by intro z; exact h (List.isEmpty_iff.mp z))]
theorem min_wI {r : List Int} (h : r ≠ []) : bMinS [wI r] = some (.int (mnI r)) := by
  show ((some (r.map D.int)).bind intL).bind _ = _
  rw [Option.bind_some, intL_ints, Option.bind_some, if_neg (by intro z; exact h (List.isEmpty_iff.mp z))]
theorem max_lst {r : List Int} (h : r ≠ []) : bMaxS [.lst (r.map D.int)] = some (.int (mxI r)) := max_wI h
@[simp] theorem tru_tup (xs : List D) : truD (.tup xs) = some (!xs.isEmpty) := rfl
@[simp] theorem tru_lst (xs : List D) : truD (.lst xs) = some (!xs.isEmpty) := rfl
@[simp] theorem at_l1 {α : Type} (a : α) : atI [a] (-1) = some a := at_last [] a
theorem eqv_s1 (x y : Str) : (D.tup [.str x]).eqv (.tup [.str y]) = (x == y) := by
  rw [eqv_tup, pys, pys, pys, pys, PyData.eqvAll, PyData.eqvAll]
  have := eqv_str x y
  unfold D.eqv at this
  rw [this, Bool.and_true]
theorem dOk_s1 {x : Str} (h : PyData.strOk x = true) : dOk 8 (.tup [.str x]) = true := by
  rw [dOk, List.all_cons, dOk_str 7 h]; rfl
theorem ne_s1 {x y : Str} (h : PyData.strOk x = true) (h2 : PyData.strOk y = true) : dNe (.tup [.str x]) (.tup [.str y]) = some (.bl (!(x == y))) := by
  rw [dNe, dOk_s1 h, dOk_s1 h2, eqv_s1]; rfl
theorem eqv_selfs (x : Str) : (x == x) = true := beq_self_eq_true x
theorem ne_s1_self {x : Str} (h : PyData.strOk x = true) : dNe (.tup [.str x]) (.tup [.str x]) = some (.bl false) := by
  rw [ne_s1 h h, eqv_selfs]; rfl
theorem enumD_rng (T : List (List Int)) : enumD 0 (T.map wI) = (List.range T.length).map fun i => .tup [.int (i : Nat), wI (ro T i)] := by
  refine List.ext_getElem? fun i => ?_
  rw [enumD_get, List.getElem?_map, List.getElem?_map]
  by_cases hi : i < T.length
  · rw [List.getElem?_range hi, List.getElem?_eq_getElem hi]
    have : ro T i = T[i] := by unfold ro; rw [List.getElem?_eq_getElem hi]; rfl
    rw [Option.map_some, Option.map_some, Option.map_some, this, Nat.zero_add]
  · rw [List.getElem?_eq_none (by omega), List.getElem?_eq_none (by rw [List.length_range]; omega)]; rfl
theorem zipD_zip : ∀ (r q : List Int), zipD (r.map .int) (q.map .int) = (r.zip q).map fun p => .tup [.int p.1, .int p.2]
  | [], _ => by simp [zipD]
  | _ :: _, [] => by simp [zipD]
  | x :: r, y :: q => by simp [zipD, zipD_zip r q]
/-! ### comprehensions with two loops -/
theorem cLp2_map {vs : List Nat} {g : D → Ev → Option Ev} {tt : Ev → M Bool} {inn : Ev → M (List D)} {δ : Ev} {s : Src} {α : Type} (en : α → D) (f : α → List D) : ∀ (l : List α), (∀ a ∈ l, ∃ δ1, g (en a) (wipeE δ vs) = some δ1 ∧ tt δ1 s = some (true, s) ∧ inn δ1 s = some (f a, s)) →
    cLp2 vs g tt inn δ (l.map en) s = some (l.flatMap f, s)
  | [], _ => rfl
  | a :: l, h => by
    obtain ⟨δ1, h1, h2, h3⟩ := h a List.mem_cons_self
    rw [List.map_cons, cLp2]
    simp only [bd_ap, h1, of_some, Option.bind_some, h2, if_true, h3, cLp2_map en f l fun b hb => h b (List.mem_cons_of_mem _ hb), ret_ap, List.flatMap_cons]
/-- comprehensions with a test, without draws -/
theorem cLp_filter {vs : List Nat} {g : D → Ev → Option Ev} {tt : Ev → M Bool} {te : FE} {δ : Ev} {s : Src} {α : Type} (en : α → D) (t : α → Bool) (f : α → D) : ∀ (l : List α), (∀ a ∈ l, ∃ δ1, g (en a) (wipeE δ vs) = some δ1 ∧ tt δ1 s = some (t a, s) ∧ (t a = true → te δ1 s = some (f a, s))) →
    cLp vs g tt te δ (l.map en) s = some ((l.filter t).map f, s)
  | [], _ => rfl
  | a :: l, h => by
    obtain ⟨δ1, h1, h2, h3⟩ := h a List.mem_cons_self
    have ih := cLp_filter (vs := vs) (g := g) (tt := tt) (te := te) (δ := δ) (s := s) en t f l fun b hb => h b (List.mem_cons_of_mem _ hb)
    rw [List.map_cons, cLp]
    cases e : t a with
    | true => simp only [bd_ap, h1, of_some, Option.bind_some, h2, e, if_true, h3 e, ih, ret_ap, List.filter_cons, List.map_cons]
    | false => simp only [bd_ap, h1, of_some, Option.bind_some, h2, e, Bool.false_eq_true, if_false, ih, List.filter_cons]
theorem inLc_eq {h : FI} {vs : List Nat} {g : D → Ev → Option Ev} {tt : Ev → M Bool} {te : FE} {δ : Ev} {s s1 s2 : Src} {ds ys : List D} (h1 : h δ s = some (ds, s1)) (hl : ds.length ≤ 1000) (hc : cLp vs g tt te δ ds s1 = some (ys, s2)) : inLc h vs g tt te δ s = some (ys, s2) := by
  unfold inLc
  rw [bd_ap, h1, Option.bind_some, if_pos hl]; exact hc
theorem lc2_eq {h h1 : FI} {vs vs1 : List Nat} {g g1 : D → Ev → Option Ev} {tt tt1 : Ev → M Bool} {te : FE} {δ : Ev} {s s1 s2 : Src} {ds ys : List D} (e1 : h δ s = some (ds, s1)) (hl : ds.length ≤ 1000) (hc : cLp2 vs g tt (inLc h1 vs1 g1 tt1 te) δ ds s1 = some (ys, s2)) : eLc2 h vs g tt h1 vs1 g1 tt1 te δ s = some (.lst ys, s2) := by
  unfold eLc2
  rw [bd_ap, e1, Option.bind_some, if_pos hl, bd_ap, hc]; rfl
/-- what range(i, n) walks over -/
theorem rg2_n {i n : Nat} (h : i ≤ 1000) (h2 : n ≤ 1000) : rg2 [.int (i : Nat), .int (n : Nat)] = some ((List.range (n - i)).map fun k => .int ((i + k : Nat) : Int)) := by
  rw [rg2_i, if_pos (by omega), rngD_map, show ((n : Int) - (i : Int)).toNat = n - i by omega]
  rfl
@[simp] theorem sForN_ap {h : FI} {tg : D → Ev → Option Ev} {body : FS} {δ : Ev} {s : Src} : sForN h tg body δ s = (h δ s).bind fun p => if noOw δ = true then fLp tg body p.1 δ p.2 else none := by
  simp only [sForN, bd_ap]; congr; funext k; split <;> rfl
/-- an any over tests that all fail -/
theorem any_no {α : Type} (l : List α) : bAny [.lst (l.map fun _ => .bl false)] = some (.bl false) := by
  rw [any_lst, boolL_map (fun _ : α => false)]
  simp
theorem all_yes {α : Type} (l : List α) : bAll [.lst (l.map fun _ => .bl true)] = some (.bl true) := by
  rw [all_lst, boolL_map (fun _ : α => true)]
  simp
/-- loops whose body leaves all but some slots -/
theorem fLp_keep {α : Type} (en : α → D) {tg : D → Ev → Option Ev} {body : FS} (I : Ev → Prop) {s : Src} (l : List α) (δ : Ev) (h0 : I δ) (h : ∀ a ∈ l, ∀ δ, I δ → (en a).lf = true ∧ ∃ δ1 δ2, tg (en a) δ = some δ1 ∧ body δ1 s = some (.nx δ2, s) ∧ I δ2) :
    ∃ δ', fLp tg body (l.map en) δ s = some (.nx δ', s) ∧ I δ' := by
  obtain ⟨δ', h1, h2⟩ := fLp_inv (tg := tg) (body := body) (s := s) (fun _ δ => I δ) (l.map en) 0 δ h0 fun i d δ hd hI => by
    rw [List.getElem?_map] at hd
    obtain ⟨a, ha, rfl⟩ := Option.map_eq_some_iff.mp hd
    exact h a (List.mem_of_getElem? ha) δ hI
  exact ⟨δ', h1, h2⟩
end DL
set_option Elab.async false
set_option linter.all false
set_option maxRecDepth 100000
set_option maxHeartbeats 400000
/-! K38m: what the functions over data answer. -/
namespace K38
open PySem PySem.Spec PyProof.Rows L2 DL
/-- a table of numbers from 0 to 1000, 0 in the middle, even -/
structure Tab (T : List (List Int)) (n : Nat) : Prop where
  sq : Sq T n
  n1 : 1 ≤ n
  n8 : n ≤ 8
  lo : ∀ i j, i < n → j < n → 0 ≤ tl T i j
  hi : ∀ i j, i < n → j < n → tl T i j ≤ 1000
  dg : ∀ i, i < n → tl T i i = 0
  sy : ∀ i j, i < n → j < n → tl T i j = tl T j i
/-- a table of distances -/
structure Dist (T : List (List Int)) (n : Nat) : Prop extends Tab T n where
  ps : ∀ i j, i < n → j < n → i ≠ j → 0 < tl T i j
  tr : ∀ i j k, i < n → j < n → k < n → tl T i j ≤ tl T i k + tl T k j
@[simp] theorem isint (i : Int) (s : Src) : F_is_integer [.int i] s = some (.bl true, s) := by
  unfold F_is_integer
  exact run_rt (by simp [g_is_integer])
theorem ct2 {T : List (List Int)} {n : Nat} (h : Tab T n) {B C E : Sl} {r : List Int} (hr : r ∈ T) (s : Src) : b_check_table_2 [.rd (tB T), .rd (wI r), B, C, E] s = some (.nx [.rd (tB T), .rd (wI r), B, C, E], s) := by
  have hl := h.sq.row r hr
  have hn8 := h.n8
  have h1 : c_check_table_1 [.rd (tB T), .rd (wI r), B, C, E] s = some (.lst (r.map fun _ => .bl false), s) := by
    unfold c_check_table_1
    refine lc_eq (s1 := s) (ds := r.map D.int) (by simp) (by rw [List.length_map]; omega) (cLp_map (α := Int) D.int (fun _ => .bl false) r fun x hx => ⟨_, rfl, rfl, ?_⟩)
    obtain ⟨i, hi, e⟩ := List.getElem_of_mem hr
    obtain ⟨j, hj, e2⟩ := mem_el hx
    have hi' : i < n := by rw [← h.sq.len]; exact hi
    have er : ro T i = r := by unfold ro; rw [List.getElem?_eq_getElem hi, e]; rfl
    have ex : tl T i j = x := by unfold tl; rw [er]; exact e2
    have lo := h.lo i j hi' (by omega)
    have up := h.hi i j hi' (by omega)
    rw [ex] at lo up
    simp [lo, up]
  unfold b_check_table_2
  rw [seq_nx (δ1 := [.rd (tB T), .rd (wI r), B, C, E]) (s1 := s) (by simp [hl, h.sq.len])]
  simp [h1, any_no, -any_lst]
theorem ct4 {T : List (List Int)} {n i : Nat} (h : Tab T n) {C E : Sl} (hi : i < n) (s : Src) : b_check_table_4 [.rd (tB T), .rd (wI (ro T i)), .rd (.int (i : Nat)), C, E] s = some (.nx [.rd (tB T), .rd (wI (ro T i)), .rd (.int (i : Nat)), C, E], s) := by
  have hn8 := h.n8
  have h1 : c_check_table_3 [.rd (tB T), .rd (wI (ro T i)), .rd (.int (i : Nat)), C, E] s = some (.lst ((List.range i).map fun _ => .bl false), s) := by
    unfold c_check_table_3
    have e5 : rg1 [.int (i : Nat)] = some (rgs i) := rg1_n (by omega)
    refine lc_eq (s1 := s) (ds := rgs i) (by simp [e5]) (by rw [rgs_len]; omega) (cLp_rgs (fun _ => .bl false) i fun j hj => ⟨_, rfl, rfl, ?_⟩)
    have a1 := tB_at2 h.sq hi (show j < n by omega)
    have a2 := tB_at h.sq (show j < n by omega)
    have a3 := tB_at2 h.sq (show j < n by omega) hi
    simp [a1, a2, a3, -ix_int, h.sy i j hi (by omega)]
  have a1 := tB_at2 h.sq hi hi
  unfold b_check_table_4
  simp [h1, any_no, a1, h.dg i hi, -ix_int, -any_lst]
theorem chkT {T : List (List Int)} {n : Nat} (h : Tab T n) (s : Src) : F_check_table [tB T] s = some (.non, s) := by
  have hn1 := h.n1
  have hn8 := h.n8
  obtain ⟨δ1, e1, t1, u1, v1, w1, rfl⟩ := fLp_keep wI (tg := gN 1) (body := b_check_table_2) (s := s) (fun δ => ∃ t u v w : Sl, δ = [.rd (tB T), t, u, v, w]) T [.rd (tB T), .no, .no, .no, .no] ⟨_, _, _, _, rfl⟩ (fun r hr δ ⟨t, u, v, w, e⟩ => by
    subst e
    exact ⟨lf_wI r, _, _, rfl, ct2 h hr s, _, _, _, _, rfl⟩)
  obtain ⟨δ2, e2, t2, u2, v2, w2, rfl⟩ := fLp_inv (tg := gT 2 (gsC (gN 2) (gsC (gN 1) gs0))) (body := b_check_table_4) (s := s) (fun _ δ => ∃ t u v w : Sl, δ = [.rd (tB T), t, u, v, w]) (enumD 0 (T.map wI)) 0 [.rd (tB T), t1, u1, v1, w1] ⟨_, _, _, _, rfl⟩ (fun i d δ hd ⟨t, u, v, w, e⟩ => by
    subst e
    have hi : i < n := by
      have := (List.getElem?_eq_some_iff.mp hd).1
      rwa [enumD_len, List.length_map, h.sq.len] at this
    rw [enumD_get, List.getElem?_map, h.sq.at_ hi] at hd
    simp at hd
    subst hd
    exact ⟨by simp, _, _, rfl, ct4 h hi s, _, _, _, _, rfl⟩)
  unfold F_check_table
  refine run_nx (δ1 := [.rd (tB T), t2, u2, v2, w2]) (s1 := s) ?_
  show g_check_table [.rd (tB T), .no, .no, .no, .no] s = _
  unfold g_check_table
  rw [seq_nx (δ1 := [.rd (tB T), .no, .no, .no, .no]) (s1 := s) (by simp [h.sq.len, show (1 : Int) ≤ n by omega, show (n : Int) ≤ 8 by omega])]
  rw [seq_nx (δ1 := [.rd (tB T), t1, u1, v1, w1]) (s1 := s) (by simp [e1])]
  simp [en1T, e2]
/-! pairs -/
def prs (n : Nat) : List (Nat × Nat) := (List.range n).flatMap fun i => (List.range (n - (i + 1))).map fun k => (i, i + 1 + k)
def enP (p : Nat × Nat) : D := .tup [.int p.1, .int p.2]
theorem mem_prs {n : Nat} {p : Nat × Nat} : p ∈ prs n ↔ p.1 < p.2 ∧ p.2 < n := by
  unfold prs
  rw [List.mem_flatMap]
  constructor
  · rintro ⟨i, hi, h⟩
    obtain ⟨k, hk, rfl⟩ := List.mem_map.mp h
    have := List.mem_range.mp hi
    have := List.mem_range.mp hk
    exact ⟨by show i < i + 1 + k; omega, by show i + 1 + k < n; omega⟩
  · rintro ⟨h1, h2⟩
    exact ⟨p.1, List.mem_range.mpr (by omega), List.mem_map.mpr ⟨p.2 - (p.1 + 1), List.mem_range.mpr (by omega), Prod.ext rfl (by show p.1 + 1 + (p.2 - (p.1 + 1)) = p.2; omega)⟩⟩
theorem choi {n : Nat} (h : n ≤ 30) (s : Src) : F_choices [.int (n : Nat), .int 2] s = some (.lst ((prs n).map enP), s) := by
  have c0 : ∀ t r e : Sl, c_choices_1 [.rd (.int (n : Nat)), .rd (.int 2), .ow (.lst [.tup []]), t, r, e] s = some (.lst ((List.range n).map fun j => .tup [.int (j : Nat)]), s) := fun t r e => by
    unfold c_choices_1
    have hm := cLp2_map (vs := [4, 5]) (g := gN 4) (tt := bYes) (inn := inLc (iOf rg2 (eAs (eIf (bTr (eVar 4)) (e2 dAdd (e2 dIx (eVar 4) (e1 dNeg (eC (.int 1)))) (eC (.int 1))) (eC (.int 0))) (eAs (eVar 0) eAs0))) [5] (gN 5) bYes (eLf (e2 dAdd (eVar 4) (eTup (eAs (eVar 5) eAs0)))))
      (δ := [.rd (.int (n : Nat)), .rd (.int 2), .ow (.lst [.tup []]), t, r, e]) (s := s) (α := Unit) (fun _ => .tup []) (fun _ => (List.range n).map fun j => .tup [.int (j : Nat)]) [()] fun _ _ => ⟨_, rfl, rfl, by
      have e5 : rg2 [.int 0, .int (n : Nat)] = some ((List.range (n - 0)).map fun k => .int ((0 + k : Nat) : Int)) := rg2_n (i := 0) (by omega) (by omega)
      refine inLc_eq (s1 := s) (ds := (List.range (n - 0)).map fun k => .int ((0 + k : Nat) : Int)) (by simp [e5]) (by simp; omega) ?_
      rw [cLp_map (α := Nat) (fun k => .int ((0 + k : Nat) : Int)) (fun k => .tup [.int (k : Nat)]) (List.range (n - 0)) fun k _ => ⟨_, rfl, rfl, by simp⟩]
      rfl⟩
    refine lc2_eq (s1 := s) (ds := [.tup []]) (by simp) (by simp) ?_
    have e : [()].flatMap (fun _ => (List.range n).map fun j => D.tup [.int (j : Nat)]) = (List.range n).map fun j => D.tup [.int (j : Nat)] := by simp
    rw [e] at hm
    exact hm
  have c1 : ∀ t r e : Sl, c_choices_1 [.rd (.int (n : Nat)), .rd (.int 2), .ow (.lst ((List.range n).map fun j => .tup [.int (j : Nat)])), t, r, e] s = some (.lst ((prs n).map enP), s) := fun t r e => by
    unfold c_choices_1
    have hm := cLp2_map (vs := [4, 5]) (g := gN 4) (tt := bYes) (inn := inLc (iOf rg2 (eAs (eIf (bTr (eVar 4)) (e2 dAdd (e2 dIx (eVar 4) (e1 dNeg (eC (.int 1)))) (eC (.int 1))) (eC (.int 0))) (eAs (eVar 0) eAs0))) [5] (gN 5) bYes (eLf (e2 dAdd (eVar 4) (eTup (eAs (eVar 5) eAs0)))))
      (δ := [.rd (.int (n : Nat)), .rd (.int 2), .ow (.lst ((List.range n).map fun j => .tup [.int (j : Nat)])), t, r, e]) (s := s) (α := Nat) (fun j => .tup [.int (j : Nat)]) (fun i => ((List.range (n - (i + 1))).map fun k => (i, i + 1 + k)).map enP) (List.range n) fun i hi => ⟨_, rfl, rfl, by
      have hi := List.mem_range.mp hi
      have e5 : rg2 [.int ((i : Int) + 1), .int (n : Nat)] = some ((List.range (n - (i + 1))).map fun k => .int ((i + 1 + k : Nat) : Int)) := rg2_n (i := i + 1) (by omega) (by omega)
      refine inLc_eq (s1 := s) (ds := (List.range (n - (i + 1))).map fun k => .int ((i + 1 + k : Nat) : Int)) (by simp [e5]) (by simp; omega) ?_
      rw [cLp_map (α := Nat) (fun k => .int ((i + 1 + k : Nat) : Int)) (fun k => enP (i, i + 1 + k)) (List.range (n - (i + 1))) fun k _ => ⟨_, rfl, rfl, by simp [enP]⟩, List.map_map]
      rfl⟩
    refine lc2_eq (s1 := s) (ds := (List.range n).map fun j => .tup [.int (j : Nat)]) (by simp) (by simp; omega) ?_
    rw [hm, prs, List.map_flatMap]
  unfold F_choices
  refine run_rt ?_
  show g_choices [.rd (.int (n : Nat)), .rd (.int 2), .no, .no, .no, .no] s = _
  unfold g_choices
  rw [seq_nx (δ1 := [.rd (.int (n : Nat)), .rd (.int 2), .ow (.lst [.tup []]), .no, .no, .no]) (s1 := s) (by simp)]
  have e2 : rg1 [.int 2] = some [.int 0, .int 1] := rg1_n (n := 2) (by omega)
  rw [seq_nx (δ1 := [.rd (.int (n : Nat)), .rd (.int 2), .ow (.lst ((prs n).map enP)), .rd (.int 1), .no, .no]) (s1 := s) (by
    simp [e2, fLp, b_choices_2, c0, c1])]
  simp
/-! distances -/
theorem okDist : PyData.strOk "distances" = true := by decide +kernel
section
variable {T : List (List Int)} {n : Nat}
theorem dp1 (h : Dist T n) {p : Nat × Nat} (hp : p ∈ prs n) {C : Sl} (s : Src) : b_distance_paper_1 [.rd (tB T), .rd (.int (p.1 : Nat)), .rd (.int (p.2 : Nat)), C] s = some (.nx [.rd (tB T), .rd (.int (p.1 : Nat)), .rd (.int (p.2 : Nat)), C], s) := by
  obtain ⟨h1, h2⟩ := mem_prs.mp hp
  have a1 := tB_at h.sq (show p.1 < n by omega)
  have a2 := tB_at2 h.sq (show p.1 < n by omega) h2
  have := h.ps p.1 p.2 (by omega) h2 (by omega)
  unfold b_distance_paper_1
  simp [a1, a2, -ix_int, show ¬ tl T p.1 p.2 = 0 by omega]
theorem dp2 (h : Dist T n) {p : Nat × Nat} (hp : p ∈ prs n) {k : Nat} (hk : k < n) (s : Src) : b_distance_paper_2 [.rd (tB T), .rd (.int (p.1 : Nat)), .rd (.int (p.2 : Nat)), .rd (.int (k : Nat))] s = some (.nx [.rd (tB T), .rd (.int (p.1 : Nat)), .rd (.int (p.2 : Nat)), .rd (.int (k : Nat))], s) := by
  obtain ⟨h1, h2⟩ := mem_prs.mp hp
  have a1 := tB_at h.sq (show p.1 < n by omega)
  have a2 := tB_at2 h.sq (show p.1 < n by omega) h2
  have a3 := tB_at2 h.sq (show p.1 < n by omega) hk
  have a4 := tB_at h.sq hk
  have a5 := tB_at2 h.sq hk h2
  have := h.tr p.1 p.2 k (by omega) h2 hk
  unfold b_distance_paper_2
  simp [a1, a2, a3, a4, a5, -ix_int, this]
theorem dp3 (h : Dist T n) {p : Nat × Nat} (hp : p ∈ prs n) {C : Sl} (s : Src) : ∃ C', b_distance_paper_3 [.rd (tB T), .rd (.int (p.1 : Nat)), .rd (.int (p.2 : Nat)), C] s = some (.nx [.rd (tB T), .rd (.int (p.1 : Nat)), .rd (.int (p.2 : Nat)), C'], s) := by
  have hn8 := h.n8
  obtain ⟨δ1, e1, C', rfl⟩ := fLp_keep (fun k : Nat => D.int k) (tg := gN 3) (body := b_distance_paper_2) (s := s) (fun δ => ∃ C : Sl, δ = [.rd (tB T), .rd (.int (p.1 : Nat)), .rd (.int (p.2 : Nat)), C]) (List.range n) [.rd (tB T), .rd (.int (p.1 : Nat)), .rd (.int (p.2 : Nat)), C] ⟨_, rfl⟩ (fun k hk δ ⟨C, e⟩ => by
    subst e
    exact ⟨rfl, _, _, rfl, dp2 h hp (List.mem_range.mp hk) s, _, rfl⟩)
  have e5 : rg1 [.int (n : Nat)] = some (rgs n) := rg1_n (by omega)
  refine ⟨C', ?_⟩
  unfold b_distance_paper_3
  simp [h.sq.len, e5]
  exact e1
theorem dpap (h : Dist T n) (s : Src) : F_distance_paper [tB T] s = some (.tup [.str "distances"], s) := by
  have hn8 := h.n8
  obtain ⟨δ1, e1, t1, u1, v1, rfl, hv⟩ := fLp_keep enP (tg := gT 2 (gsC (gN 1) (gsC (gN 2) gs0))) (body := b_distance_paper_1) (s := s) (fun δ => ∃ t u v : Sl, δ = [.rd (tB T), t, u, v] ∧ noOw [t, u, v] = true) (prs n) [.rd (tB T), .no, .no, .no] ⟨_, _, _, rfl, rfl⟩ (fun p hp δ ⟨t, u, v, e, hv⟩ => by
    subst e
    refine ⟨by simp [enP], _, _, rfl, dp1 h hp s, _, _, _, rfl, ?_⟩
    simp [noOw] at hv ⊢
    exact hv.2.2)
  obtain ⟨δ2, e2, t2, u2, v2, rfl⟩ := fLp_keep enP (tg := gT 2 (gsC (gN 1) (gsC (gN 2) gs0))) (body := b_distance_paper_3) (s := s) (fun δ => ∃ t u v : Sl, δ = [.rd (tB T), t, u, v]) (prs n) [.rd (tB T), t1, u1, v1] ⟨_, _, _, rfl⟩ (fun p hp δ ⟨t, u, v, e⟩ => by
    subst e
    obtain ⟨C', e3⟩ := dp3 h hp (C := v) s
    exact ⟨by simp [enP], _, _, rfl, e3, _, _, _, rfl⟩)
  unfold F_distance_paper
  refine run_rt ?_
  show g_distance_paper [.rd (tB T), .no, .no, .no] s = _
  unfold g_distance_paper
  rw [seq_nx (δ1 := [.rd (tB T), .no, .no, .no]) (s1 := s) (by simp [chkT h.toTab])]
  have ec := choi (n := n) (by omega) s
  have hv2 : noOw [.rd (tB T), t1, u1, v1] = true := by simpa [noOw] using hv
  rw [seq_nx (δ1 := [.rd (tB T), t1, u1, v1]) (s1 := s) (by simp [h.sq.len, ec, noOw, e1])]
  rw [seq_nx (δ1 := [.rd (tB T), t2, u2, v2]) (s1 := s) (by simp [h.sq.len, ec, hv2, e2])]
  simp
theorem chkD (h : Dist T n) (s : Src) : F_check_distances [tB T] s = some (.non, s) := by
  unfold F_check_distances
  refine run_nx (δ1 := [.rd (tB T)]) (s1 := s) ?_
  show g_check_distances [.rd (tB T)] s = _
  unfold g_check_distances
  simp [dpap h, ne_s1_self okDist]
end
/-! rows -/
theorem chkS {T : List (List Int)} {n : Nat} (h : Sq T n) {r : List Int} (hn : n ≤ 100) (hl : r.length = n) (h0 : ∀ x ∈ r, 0 ≤ x) (s : Src) : F_check_row_spans [tB T, wI r] s = some (.non, s) := by
  have h1 : c_check_row_spans_1 [.rd (tB T), .rd (wI r), .no] s = some (.lst (r.map fun _ => .bl false), s) := by
    unfold c_check_row_spans_1
    refine lc_eq (s1 := s) (ds := r.map D.int) (by simp) (by rw [List.length_map]; omega) (cLp_map (α := Int) D.int (fun _ => .bl false) r fun x hx => ⟨_, rfl, rfl, ?_⟩)
    simp [h0 x hx]
  unfold F_check_row_spans
  refine run_nx (δ1 := [.rd (tB T), .rd (wI r), .no]) (s1 := s) ?_
  show g_check_row_spans [.rd (tB T), .rd (wI r), .no] s = _
  unfold g_check_row_spans
  simp [h1, any_no, -any_lst, hl, h.len]
theorem chkG {T : List (List Int)} {n : Nat} (h : Sq T n) {r : List Int} (hn : n ≤ 100) (hl : r.length = n) (h0 : ∀ x ∈ r, 0 < x ∧ x ≤ 1000) (s : Src) : F_check_row_glues [tB T, wI r] s = some (.non, s) := by
  have h1 : c_check_row_glues_1 [.rd (tB T), .rd (wI r), .no] s = some (.lst (r.map fun _ => .bl false), s) := by
    unfold c_check_row_glues_1
    refine lc_eq (s1 := s) (ds := r.map D.int) (by simp) (by rw [List.length_map]; omega) (cLp_map (α := Int) D.int (fun _ => .bl false) r fun x hx => ⟨_, rfl, rfl, ?_⟩)
    simp [h0 x hx]
  unfold F_check_row_glues
  refine run_nx (δ1 := [.rd (tB T), .rd (wI r), .no]) (s1 := s) ?_
  show g_check_row_glues [.rd (tB T), .rd (wI r), .no] s = _
  unfold g_check_row_glues
  rw [seq_nx (δ1 := [.rd (tB T), .rd (wI r), .no]) (s1 := s) (by simp [hl, h.len])]
  simp [h1, any_no, -any_lst]
/-! one point more -/
theorem okFits : PyData.strOk "fits" = true := by decide +kernel
section
variable {T : List (List Int)} {n : Nat} {r : List Int}
theorem mp1 (h : Dist T n) (hl : r.length = n) (sm : ∀ i j, i < n → j < n → i ≠ j → tl T i j ≤ el r i + el r j) (gp : ∀ i j, i < n → j < n → i ≠ j → el r i ≤ el r j + tl T i j) {p : Nat × Nat} (hp : p ∈ prs n) (s : Src) :
    b_more_paper_1 [.rd (tB T), .rd (wI r), .rd (.int (p.1 : Nat)), .rd (.int (p.2 : Nat))] s = some (.nx [.rd (tB T), .rd (wI r), .rd (.int (p.1 : Nat)), .rd (.int (p.2 : Nat))], s) := by
  obtain ⟨h1, h2⟩ := mem_prs.mp hp
  have a1 := tB_at h.sq (show p.1 < n by omega)
  have a2 := tB_at2 h.sq (show p.1 < n by omega) h2
  have a3 := wI_at (r := r) (show p.1 < r.length by omega)
  have a4 := wI_at (r := r) (show p.2 < r.length by omega)
  have s1 := sm p.1 p.2 (by omega) h2 (by omega)
  have g1 := gp p.1 p.2 (by omega) h2 (by omega)
  have g2 := gp p.2 p.1 h2 (by omega) (by omega)
  have e := h.sy p.1 p.2 (by omega) h2
  have g3 : ¬ tl T p.1 p.2 < (if el r p.1 - el r p.2 < 0 then -(el r p.1 - el r p.2) else el r p.1 - el r p.2) := by split <;> omega
  unfold b_more_paper_1
  rw [seq_nx (δ1 := [.rd (tB T), .rd (wI r), .rd (.int (p.1 : Nat)), .rd (.int (p.2 : Nat))]) (s1 := s) (by simp [a1, a2, a3, a4, -ix_int, s1])]
  simp only [sIf_ap, bOf_ap, e2_ap, eCall_ap, eAs_ap, eVar_ap, gt_succ, gt_zero, sl_rd, of_some, Option.bind_some, a1, a2, a3, a4, DL.sub_int, eAs0_ap, abs_i, DL.gt_int, g3, decide_false, Bool.false_eq_true, if_false, sNil_ap]
theorem mpap (h : Dist T n) (hl : r.length = n) (h0 : ∀ x ∈ r, 0 < x ∧ x ≤ 1000) (sm : ∀ i j, i < n → j < n → i ≠ j → tl T i j ≤ el r i + el r j) (gp : ∀ i j, i < n → j < n → i ≠ j → el r i ≤ el r j + tl T i j) (s : Src) :
    F_more_paper [tB T, wI r] s = some (.tup [.str "fits"], s) := by
  have hn8 := h.n8
  obtain ⟨δ1, e1, t1, u1, rfl⟩ := fLp_keep enP (tg := gT 2 (gsC (gN 2) (gsC (gN 3) gs0))) (body := b_more_paper_1) (s := s) (fun δ => ∃ t u : Sl, δ = [.rd (tB T), .rd (wI r), t, u]) (prs n) [.rd (tB T), .rd (wI r), .no, .no] ⟨_, _, rfl⟩ (fun p hp δ ⟨t, u, e⟩ => by
    subst e
    exact ⟨by simp [enP], _, _, rfl, mp1 h hl sm gp hp s, _, _, rfl⟩)
  have ec := choi (n := n) (by omega) s
  unfold F_more_paper
  refine run_rt ?_
  show g_more_paper [.rd (tB T), .rd (wI r), .no, .no] s = _
  unfold g_more_paper
  rw [seq_nx (δ1 := [.rd (tB T), .rd (wI r), .no, .no]) (s1 := s) (by simp [chkD h])]
  rw [seq_nx (δ1 := [.rd (tB T), .rd (wI r), .no, .no]) (s1 := s) (by simp [chkG h.sq (show n ≤ 100 by omega) hl h0])]
  rw [seq_nx (δ1 := [.rd (tB T), .rd (wI r), t1, u1]) (s1 := s) (by simp [h.sq.len, ec, noOw, e1])]
  simp
def wide (T : List (List Int)) (r : List Int) : List (List Int) := ((List.range T.length).map fun i => ro T i ++ [el r i]) ++ [r ++ [0]]
theorem wpt (h : Dist T n) (hl : r.length = n) (h0 : ∀ x ∈ r, 0 < x ∧ x ≤ 1000) (sm : ∀ i j, i < n → j < n → i ≠ j → tl T i j ≤ el r i + el r j) (gp : ∀ i j, i < n → j < n → i ≠ j → el r i ≤ el r j + tl T i j) (s : Src) :
    F_with_point [tB T, wI r] s = some (tB (wide T r), s) := by
  have hn8 := h.n8
  have hT := h.sq.len
  have c1 : c_with_point_1 [.rd (tB T), .rd (wI r), .no, .no] s = some (.lst (((List.range T.length).map fun i => ro T i ++ [el r i]).map wI), s) := by
    unfold c_with_point_1
    refine lc_eq (s1 := s) (ds := (List.range T.length).map fun i => .tup [.int (i : Nat), wI (ro T i)]) ?_ (by rw [List.length_map, List.length_range]; omega) ?_
    · have : en1 [tB T] = some ((List.range T.length).map fun i => .tup [.int (i : Nat), wI (ro T i)]) := by
        show (some (T.map wI)).map (enumD 0) = _
        rw [Option.map_some, enumD_rng]
      simp [this]
    · rw [List.map_map]
      refine cLp_map (α := Nat) (fun i => .tup [.int (i : Nat), wI (ro T i)]) (fun i => wI (ro T i ++ [el r i])) _ fun i hi => ⟨_, rfl, rfl, ?_⟩
      have hi := List.mem_range.mp hi
      have a3 := wI_at (r := r) (show i < r.length by omega)
      have a4 := add_wI (ro T i) [el r i] (by rw [h.sq.rlen (by omega)]; simp; omega)
      have e : D.tup [.int (el r i)] = wI [el r i] := rfl
      simp [a3, e, a4, -ix_int]
  unfold F_with_point
  refine run_rt ?_
  show g_with_point [.rd (tB T), .rd (wI r), .no, .no] s = _
  unfold g_with_point
  rw [seq_nx (δ1 := [.rd (tB T), .rd (wI r), .no, .no]) (s1 := s) (by simp [mpap h hl h0 sm gp, ne_s1_self okFits])]
  have a5 := add_wI r [0] (by rw [hl]; simp; omega)
  have e : D.tup [.int 0] = wI [0] := rfl
  have a6 : dAdd (.tup (((List.range T.length).map fun i => ro T i ++ [el r i]).map wI)) (.tup [wI (r ++ [0])]) = some (tB (wide T r)) := by
    rw [add_tup, if_pos (by simp; omega)]
    unfold DL.tB wide
    rw [List.map_append]; rfl
  simp [c1, e, a5, a6, -List.map_map, -add_tup]
/-! least rows -/
theorem shrt (h : Sq T n) (hn : n ≤ 30) (hl : r.length = n) (sm : ∀ i j, i < n → j < n → i ≠ j → tl T i j ≤ el r i + el r j) (s : Src) : F_is_short [tB T, wI r] s = some (.bl false, s) := by
  have ec := choi (n := n) (by omega) s
  have c1 : c_is_short_1 [.rd (tB T), .rd (wI r), .no, .no] s = some (.lst ((prs n).map fun _ => .bl false), s) := by
    unfold c_is_short_1
    have hlen : (prs n).length ≤ 1000000 := by
      have h1 : (prs n).length ≤ n * n := by
        unfold prs
        rw [List.length_flatMap]
        have : ∀ (l : List Nat), ((l.map fun a => ((List.range (n - (a + 1))).map fun k => (a, a + 1 + k)).length).sum) ≤ l.length * n := by
          intro l
          induction l with
          | nil => simp
          | cons a l ih =>
            simp only [List.map_cons, List.sum_cons, List.length_map, List.length_range, List.length_cons, Nat.add_mul, Nat.one_mul] at *
            omega
        have h2 := this (List.range n)
        rw [List.length_range] at h2
        exact h2
      have h2 : n * n ≤ 30 * 30 := Nat.mul_le_mul hn hn
      omega
    refine lc_eq (s1 := s) (ds := (prs n).map enP) (by simp [h.len, ec]) (by rw [List.length_map]; exact hlen) (cLp_map (α := Nat × Nat) enP (fun _ => .bl false) (prs n) fun p hp => ⟨_, rfl, rfl, ?_⟩)
    obtain ⟨h1, h2⟩ := mem_prs.mp hp
    have a1 := tB_at h (show p.1 < n by omega)
    have a2 := tB_at2 h (show p.1 < n by omega) h2
    have a3 := wI_at (r := r) (show p.1 < r.length by omega)
    have a4 := wI_at (r := r) (show p.2 < r.length by omega)
    have s1 := sm p.1 p.2 (by omega) h2 (by omega)
    simp [a1, a2, a3, a4, -ix_int, s1]
  unfold F_is_short
  refine run_rt ?_
  show g_is_short [.rd (tB T), .rd (wI r), .no, .no] s = _
  unfold g_is_short
  simp [c1, any_no, -any_lst]
end
def tg (T : List (List Int)) (n : Nat) (r : List Int) (i : Nat) : Bool := (List.range n).any fun j => decide (el r i + el r j = tl T i j)
section
variable {T : List (List Int)} {n : Nat} {r : List Int}
theorem lp1 (h : Sq T n) (hl : r.length = n) (sm : ∀ i j, i < n → j < n → i ≠ j → tl T i j ≤ el r i + el r j) {p : Nat × Nat} (hp : p ∈ prs n) {C E F : Sl} (s : Src) :
    b_least_paper_1 [.rd (tB T), .rd (wI r), .rd (.int (p.1 : Nat)), .rd (.int (p.2 : Nat)), C, E, F] s = some (.nx [.rd (tB T), .rd (wI r), .rd (.int (p.1 : Nat)), .rd (.int (p.2 : Nat)), C, E, F], s) := by
  obtain ⟨h1, h2⟩ := mem_prs.mp hp
  have a1 := tB_at h (show p.1 < n by omega)
  have a2 := tB_at2 h (show p.1 < n by omega) h2
  have a3 := wI_at (r := r) (show p.1 < r.length by omega)
  have a4 := wI_at (r := r) (show p.2 < r.length by omega)
  have s1 := sm p.1 p.2 (by omega) h2 (by omega)
  unfold b_least_paper_1
  simp [a1, a2, a3, a4, -ix_int, s1]
theorem lp3 (h : Sq T n) (hn : n ≤ 30) (hl : r.length = n) {i : Nat} (hi : i < n) {o u v : Sl} {ps : List D} (hps : ps.length < 1000) (s : Src) :
    (tg T n r i = true → ∃ x u', b_least_paper_3 [.rd (tB T), .rd (wI r), .rd (.int (i : Nat)), o, .ow (.lst ps), u, v] s = some (.nx [.rd (tB T), .rd (wI r), .rd (.int (i : Nat)), o, .ow (.lst (ps ++ [x])), u', v], s)) ∧
    (tg T n r i = false → b_least_paper_3 [.rd (tB T), .rd (wI r), .rd (.int (i : Nat)), o, .ow (.lst ps), u, v] s = some (.rt (.tup [.str "loose", .int (i : Nat)]), s)) := by
  have e5 : rg1 [.int (n : Nat)] = some (rgs n) := rg1_n (by omega)
  have a3 := wI_at (r := r) (show i < r.length by omega)
  have a1 := tB_at h hi
  have c2 : c_least_paper_2 [.rd (tB T), .rd (wI r), .rd (.int (i : Nat)), o, .ow (.lst ps), u, v] s = some (.lst (((List.range n).filter fun j => decide (el r i + el r j = tl T i j)).map fun j => .int (j : Nat)), s) := by
    unfold c_least_paper_2
    refine lc_eq (s1 := s) (ds := rgs n) (by simp [h.len, e5]) (by rw [rgs_len]; omega) (cLp_filter (α := Nat) (fun j => D.int j) _ (fun j => .int (j : Nat)) (List.range n) fun j hj => ⟨_, rfl, ?_, fun _ => by simp⟩)
    have hj := List.mem_range.mp hj
    have a4 := wI_at (r := r) (show j < r.length by omega)
    have a2 := tB_at2 h hi hj
    simp [a1, a2, a3, a4, -ix_int]
  generalize hab : (List.range n).filter (fun j => decide (el r i + el r j = tl T i j)) = ab at c2
  have htg : tg T n r i = !ab.isEmpty := by
    rw [← hab]
    unfold tg
    rw [Bool.eq_iff_iff]
    simp [List.isEmpty_iff, List.filter_eq_nil_iff]
  cases ab with
  | nil =>
    refine ⟨fun z => (by rw [htg] at z; cases z), fun _ => ?_⟩
    unfold b_least_paper_3
    rw [seq_nx (δ1 := [.rd (tB T), .rd (wI r), .rd (.int (i : Nat)), o, .ow (.lst ps), .ow (.lst []), v]) (s1 := s) (by simp [c2])]
    simp
  | cons j ab =>
    refine ⟨fun _ => ⟨.int (j : Nat), .ow (.lst ((j :: ab).map fun j => .int (j : Nat))), ?_⟩, fun z => (by rw [htg] at z; cases z)⟩
    unfold b_least_paper_3
    rw [seq_nx (δ1 := [.rd (tB T), .rd (wI r), .rd (.int (i : Nat)), o, .ow (.lst ps), .ow (.lst ((j :: ab).map fun j => .int (j : Nat))), v]) (s1 := s) (by simp [c2])]
    rw [seq_nx (δ1 := [.rd (tB T), .rd (wI r), .rd (.int (i : Nat)), o, .ow (.lst ps), .ow (.lst ((j :: ab).map fun j => .int (j : Nat))), v]) (s1 := s) (by simp)]
    rw [sApp_ap (ds := ps) rfl]
    simp [show ps.length < 1000000 by omega]
theorem lp_loop (h : Sq T n) (hn : n ≤ 30) (hl : r.length = n) {o v : Sl} {s : Src} : ∀ (l : List Nat) (ps : List D) (t u : Sl), (∀ i ∈ l, i < n) → ps.length + l.length < 1000 →
    (l.all (tg T n r) = true → ∃ t' ps' u', fLp (gN 2) b_least_paper_3 (l.map fun i => .int (i : Nat)) [.rd (tB T), .rd (wI r), t, o, .ow (.lst ps), u, v] s = some (.nx [.rd (tB T), .rd (wI r), t', o, .ow (.lst ps'), u', v], s)) ∧
    (l.all (tg T n r) = false → ∃ i : Nat, fLp (gN 2) b_least_paper_3 (l.map fun i => .int (i : Nat)) [.rd (tB T), .rd (wI r), t, o, .ow (.lst ps), u, v] s = some (.rt (.tup [.str "loose", .int (i : Nat)]), s))
  | [], ps, t, u, _, _ => ⟨fun _ => ⟨t, ps, u, rfl⟩, fun z => by cases z⟩
  | i :: l, ps, t, u, hi, hp => by
    rw [List.length_cons] at hp
    obtain ⟨b1, b2⟩ := lp3 h hn hl (hi i List.mem_cons_self) (o := o) (u := u) (v := v) (ps := ps) (by omega) s
    have st : ∀ X, (b_least_paper_3 [.rd (tB T), .rd (wI r), .rd (.int (i : Nat)), o, .ow (.lst ps), u, v] s = X) → fLp (gN 2) b_least_paper_3 ((i :: l).map fun i => .int (i : Nat)) [.rd (tB T), .rd (wI r), t, o, .ow (.lst ps), u, v] s = X.bind fun q => (match q.1 with
        | .nx δ2 => fLp (gN 2) b_least_paper_3 (l.map fun i => .int (i : Nat)) δ2
        | .ct δ2 => fLp (gN 2) b_least_paper_3 (l.map fun i => .int (i : Nat)) δ2
        | .bk δ2 => M.ret (.nx δ2)
        | .rt d => M.ret (.rt d)) q.2 := fun X e => by
      rw [List.map_cons, fLp, bd_ap]
      show Option.bind (some ([.rd (tB T), .rd (wI r), .rd (.int (i : Nat)), o, .ow (.lst ps), u, v], s)) _ = _
      rw [Option.bind_some, bd_ap]
      show Option.bind (b_least_paper_3 [.rd (tB T), .rd (wI r), .rd (.int (i : Nat)), o, .ow (.lst ps), u, v] s) _ = _
      rw [e] <;> rfl
    rw [List.all_cons]
    cases hg : tg T n r i with
    | true =>
      obtain ⟨x, u', e⟩ := b1 hg
      obtain ⟨r1, r2⟩ := lp_loop h hn hl (o := o) (v := v) (s := s) l (ps ++ [x]) (.rd (.int (i : Nat))) u' (fun j hj => hi j (List.mem_cons_of_mem _ hj)) (by rw [List.length_append]; simp; omega)
      rw [st _ e, Bool.true_and]
      exact ⟨r1, r2⟩
    | false =>
      have e := b2 hg
      rw [st _ e, Bool.false_and]
      exact ⟨fun z => (by cases z), fun _ => ⟨i, rfl⟩⟩
theorem lpap (h : Dist T n) (hl : r.length = n) (h0 : ∀ x ∈ r, 0 ≤ x) (sm : ∀ i j, i < n → j < n → i ≠ j → tl T i j ≤ el r i + el r j) (s : Src) :
    ∃ x : D, F_least_paper [tB T, wI r] s = some (.tup [.str (if (List.range n).all (tg T n r) = true then "least" else "loose"), x], s) := by
  have hn8 := h.n8
  have ec := choi (n := n) (by omega) s
  have e5 : rg1 [.int (n : Nat)] = some (rgs n) := rg1_n (by omega)
  obtain ⟨δ1, e1, t1, u1, rfl⟩ := fLp_keep enP (tg := gT 2 (gsC (gN 2) (gsC (gN 3) gs0))) (body := b_least_paper_1) (s := s) (fun δ => ∃ t u : Sl, δ = [.rd (tB T), .rd (wI r), t, u, .no, .no, .no]) (prs n) [.rd (tB T), .rd (wI r), .no, .no, .no, .no, .no] ⟨_, _, rfl⟩ (fun p hp δ ⟨t, u, e⟩ => by
    subst e
    exact ⟨by simp [enP], _, _, rfl, lp1 h.sq hl sm hp s, _, _, rfl⟩)
  obtain ⟨l1, l2⟩ := lp_loop h.sq (show n ≤ 30 by omega) hl (o := u1) (v := .no) (s := s) (List.range n) [] t1 .no (fun i hi => List.mem_range.mp hi) (by simp; omega)
  have first : ∀ (X : Option (D × Src)), (sSeq (sOwn 4 (eLst eAs0)) (sSeq (sFor (iOf rg1 (eAs (eCall bLen (eAs (eVar 0) eAs0)) eAs0)) (gN 2) b_least_paper_3)
      (sRet (eTup (eAs (eC (.str "least")) (eAs (eCall bTup (eAs (eVar 4) eAs0)) eAs0)))))) [.rd (tB T), .rd (wI r), t1, u1, .no, .no, .no] s = X.map (fun q => (Out.rt q.1, q.2)) → F_least_paper [tB T, wI r] s = X := fun X e => by
    unfold F_least_paper DL.run
    rw [bd_ap]
    show Option.bind (g_least_paper [.rd (tB T), .rd (wI r), .no, .no, .no, .no, .no] s) _ = _
    unfold g_least_paper
    rw [seq_nx (δ1 := [.rd (tB T), .rd (wI r), .no, .no, .no, .no, .no]) (s1 := s) (by simp [chkD h])]
    rw [seq_nx (δ1 := [.rd (tB T), .rd (wI r), .no, .no, .no, .no, .no]) (s1 := s) (by simp [chkS h.sq (show n ≤ 100 by omega) hl h0])]
    rw [seq_nx (δ1 := [.rd (tB T), .rd (wI r), t1, u1, .no, .no, .no]) (s1 := s) (by simp [h.sq.len, ec, noOw, e1])]
    rw [e]
    cases X with
    | none => rfl
    | some q => rfl
  have hwalk : ∀ X, fLp (gN 2) b_least_paper_3 ((List.range n).map fun i => .int (i : Nat)) [.rd (tB T), .rd (wI r), t1, u1, .ow (.lst []), .no, .no] s = X → (sFor (iOf rg1 (eAs (eCall bLen (eAs (eVar 0) eAs0)) eAs0)) (gN 2) b_least_paper_3) [.rd (tB T), .rd (wI r), t1, u1, .ow (.lst []), .no, .no] s = X := fun X e => by
    simp [h.sq.len, e5]
    exact e
  cases hg : (List.range n).all (tg T n r) with
  | true =>
    obtain ⟨t', ps', u', e⟩ := l1 hg
    refine ⟨.tup ps', first (some (.tup [.str "least", .tup ps'], s)) ?_⟩
    rw [seq_nx (δ1 := [.rd (tB T), .rd (wI r), t1, u1, .ow (.lst []), .no, .no]) (s1 := s) (by simp)]
    rw [seq_nx (hwalk _ e)]
    simp
  | false =>
    obtain ⟨i, e⟩ := l2 hg
    refine ⟨.int (i : Nat), first (some (.tup [.str "loose", .int (i : Nat)], s)) ?_⟩
    rw [seq_nx (δ1 := [.rd (tB T), .rd (wI r), t1, u1, .ow (.lst []), .no, .no]) (s1 := s) (by simp)]
    rw [sSeq_ap, hwalk _ e]
    rfl
end
/-! gaps -/
def ab (x : Int) : Int := if x < 0 then -x else x
def gp (r q : List Int) : Int := mxI ((r.zip q).map fun p => ab (p.1 - p.2))
theorem gapd {r q : List Int} {n : Nat} (hr : r.length = n) (hq : q.length = n) (h1 : 1 ≤ n) (hn : n ≤ 100) (s : Src) : F_greatest_gap [wI r, wI q] s = some (.int (gp r q), s) := by
  have hz : (r.zip q).length = n := by rw [List.length_zip, hr, hq, Nat.min_self]
  have c1 : c_greatest_gap_1 [.rd (wI r), .rd (wI q), .no, .no] s = some (.lst (((r.zip q).map fun p => ab (p.1 - p.2)).map D.int), s) := by
    unfold c_greatest_gap_1
    have e : zp2 [wI r, wI q] = some ((r.zip q).map fun p => .tup [.int p.1, .int p.2]) := by
      rw [← zipD_zip]; rfl
    refine lc_eq (s1 := s) (ds := (r.zip q).map fun p => .tup [.int p.1, .int p.2]) (by simp [e]) (by rw [List.length_map]; omega) ?_
    rw [List.map_map]
    exact cLp_map (α := Int × Int) (fun p => .tup [.int p.1, .int p.2]) (fun p => .int (ab (p.1 - p.2))) (r.zip q) fun p _ => ⟨_, rfl, rfl, by simp [ab]⟩
  unfold F_greatest_gap
  refine run_rt ?_
  show g_greatest_gap [.rd (wI r), .rd (wI q), .no, .no] s = _
  unfold g_greatest_gap
  have m := max_lst (r := (r.zip q).map fun p => ab (p.1 - p.2)) (by
    intro z
    have := congrArg List.length z
    rw [List.length_map, hz] at this
    simp at this
    omega)
  simp [c1, m, gp, -List.map_map]
/-! lowered -/
def stp (T : List (List Int)) (n at_ : Nat) (f : List Int) : List Int := f.set at_ (mxI (0 :: ((List.range n).filter fun to => decide (to ≠ at_)).map fun to => tl T at_ to - el f to))
def lowF (T : List (List Int)) (n k : Nat) (r : List Int) : List Int := (List.range k).foldl (fun f a => stp T n a f) r
theorem lowF_s (T : List (List Int)) (n k : Nat) (r : List Int) : lowF T n (k + 1) r = stp T n k (lowF T n k r) := by
  unfold lowF; rw [List.range_succ, List.foldl_append]; rfl
theorem stp_len (T : List (List Int)) (n a : Nat) (f : List Int) : (stp T n a f).length = f.length := List.length_set ..
theorem lowF_len (T : List (List Int)) (n : Nat) (r : List Int) : ∀ k, (lowF T n k r).length = r.length
  | 0 => rfl
  | k + 1 => by rw [lowF_s, stp_len, lowF_len T n r k]
theorem ixN_nat {n j : Nat} (h : j < n) : ixN n (j : Int) = some j := by
  unfold ixN
  rw [if_pos (by omega), if_pos (by omega), Int.toNat_natCast]
section
variable {T : List (List Int)} {n : Nat} {r : List Int}
theorem lw2 (h : Sq T n) (hn : n ≤ 30) {f : List Int} (hf : f.length = n) {a : Nat} (ha : a < n) {B E : Sl} (s : Src) :
    b_lowered_2 [.rd (tB T), B, .ow (.lst (f.map D.int)), .rd (.int (a : Nat)), E] s = some (.nx [.rd (tB T), B, .ow (.lst ((stp T n a f).map D.int)), .rd (.int (a : Nat)), E], s) := by
  have e5 : rg1 [.int (n : Nat)] = some (rgs n) := rg1_n (by omega)
  have a1 := tB_at h ha
  have c1 : c_lowered_1 [.rd (tB T), B, .ow (.lst (f.map D.int)), .rd (.int (a : Nat)), E] s = some (.lst ((((List.range n).filter fun to => decide (to ≠ a)).map fun to => tl T a to - el f to).map D.int), s) := by
    unfold c_lowered_1
    rw [List.map_map]
    refine lc_eq (s1 := s) (ds := rgs n) (by simp [h.len, e5]) (by rw [rgs_len]; omega) (cLp_filter (α := Nat) (fun j => D.int j) (fun j => decide (j ≠ a)) (fun j => .int (tl T a j - el f j)) (List.range n) fun j hj => ⟨_, rfl, ?_, fun _ => ?_⟩)
    · simp
      omega
    · have hj := List.mem_range.mp hj
      have a2 := tB_at2 h ha hj
      have a3 : dIx (.lst (f.map D.int)) (.int (j : Nat)) = some (.int (el f j)) := at_nat (by rw [List.getElem?_map, el_at (by omega)]; rfl)
      simp [a1, a2, a3, -ix_int]
  generalize hxs : ((List.range n).filter fun to => decide (to ≠ a)).map (fun to => tl T a to - el f to) = xs at c1
  have hlen : xs.length ≤ 30 := by
    rw [← hxs, List.length_map]
    exact Nat.le_trans (List.length_filter_le _ _) (by rw [List.length_range]; exact hn)
  have m := max_lst (r := 0 :: xs) (by simp)
  have e : dAdd (.lst [.int 0]) (.lst (xs.map D.int)) = some (.lst ((0 :: xs).map D.int)) := by
    show (if _ then _ else _) = _
    rw [if_pos (by rw [List.length_map]; simp; omega)]; rfl
  have hv : (eCall bMaxS (eAs (e2 dAdd (eLst (eAs (eC (.int 0)) eAs0)) c_lowered_1) eAs0)) [.rd (tB T), B, .ow (.lst (f.map D.int)), .rd (.int (a : Nat)), E] s = some (.int (mxI (0 :: xs)), s) := by
    have e0 : (eLst (eAs (eC (.int 0)) eAs0)) [.rd (tB T), B, .ow (.lst (f.map D.int)), .rd (.int (a : Nat)), E] s = some (.lst [.int 0], s) := by simp
    simp only [eCall_ap, eAs_ap, e2_ap, e0, eAs0_ap, Option.bind_some, c1, e, of_some, m]
  unfold b_lowered_2 sSub
  rw [bd_ap, hv, Option.bind_some, bd_ap]
  show Option.bind (some (D.int (a : Nat), s)) _ = _
  rw [Option.bind_some]
  show (if _ then M.of _ else M.no : M Out) s = _
  rw [if_pos ⟨rfl, lfs_ints f⟩, List.length_map, ixN_nat (by omega), Option.map_some, ← List.map_set (f := D.int)]
  show some (Out.nx [.rd (tB T), B, .ow (.lst ((f.set a (mxI (0 :: xs))).map D.int)), .rd (.int (a : Nat)), E], s) = _
  rw [← hxs]; rfl
theorem lowd (h : Dist T n) (hl : r.length = n) (h0 : ∀ x ∈ r, 0 ≤ x) (sm : ∀ i j, i < n → j < n → i ≠ j → tl T i j ≤ el r i + el r j) (s : Src) : F_lowered [tB T, wI r] s = some (wI (lowF T n n r), s) := by
  have hn8 := h.n8
  have e5 : rg1 [.int (n : Nat)] = some (rgs n) := rg1_n (by omega)
  obtain ⟨δ1, e1, t, rfl⟩ := fLp_inv (tg := gN 3) (body := b_lowered_2) (s := s) (fun k δ => ∃ t : Sl, δ = [.rd (tB T), .rd (wI r), .ow (.lst ((lowF T n k r).map D.int)), t, .no]) (rgs n) 0 [.rd (tB T), .rd (wI r), .ow (.lst (r.map D.int)), .no, .no] ⟨_, rfl⟩ (fun a d δ hd ⟨t, e⟩ => by
    subst e
    obtain ⟨ha, rfl⟩ := rgs_inv hd
    rw [Nat.zero_add]
    refine ⟨rfl, _, _, rfl, lw2 h.sq (show n ≤ 30 by omega) (f := lowF T n a r) (by rw [lowF_len]; exact hl) ha s, _, by rw [lowF_s]⟩)
  rw [rgs_len, Nat.zero_add] at e1
  unfold F_lowered
  refine run_rt ?_
  show g_lowered [.rd (tB T), .rd (wI r), .no, .no, .no] s = _
  unfold g_lowered
  rw [seq_nx (δ1 := [.rd (tB T), .rd (wI r), .no, .no, .no]) (s1 := s) (by simp [chkD h])]
  rw [seq_nx (δ1 := [.rd (tB T), .rd (wI r), .no, .no, .no]) (s1 := s) (by simp [chkS h.sq (show n ≤ 100 by omega) hl h0])]
  rw [seq_nx (δ1 := [.rd (tB T), .rd (wI r), .no, .no, .no]) (s1 := s) (by simp [shrt h.sq (show n ≤ 30 by omega) hl sm])]
  have eb : bListF [wI r] = some (.lst (r.map D.int)) := by
    show (some (r.map D.int)).bind (fun xs => if lfs xs = true then some (D.lst xs) else none) = _
    rw [Option.bind_some, if_pos (lfs_ints r)]
  rw [seq_nx (δ1 := [.rd (tB T), .rd (wI r), .ow (.lst (r.map D.int)), .no, .no]) (s1 := s) (by simp [eb])]
  rw [seq_nx (δ1 := [.rd (tB T), .rd (wI r), .ow (.lst ((lowF T n n r).map D.int)), t, .no]) (s1 := s) (by simp [h.sq.len, e5, e1])]
  simp [wI]
end
/-! all least rows -/
def okE (T : List (List Int)) (k : Nat) (row : List Int) (e : Nat) : Bool := (List.range k).all fun to => decide (ab (el row to - e) ≤ tl T k to) && decide (tl T k to ≤ el row to + e)
def R (T : List (List Int)) : Nat → List (List Int)
  | 0 => [[]]
  | k + 1 => (R T k).flatMap fun row => ((List.range (mxI (ro T k) + 1).toNat).filter (okE T k row)).map fun e : Nat => row ++ [(e : Int)]
def LR (T : List (List Int)) (n : Nat) : List (List Int) := (R T n).filter fun r => (List.range n).all (tg T n r)
theorem mem_R {T : List (List Int)} {n : Nat} (hm : ∀ k, k < n → 0 ≤ mxI (ro T k)) : ∀ {k : Nat}, k ≤ n → ∀ {r : List Int}, r ∈ R T k ↔ r.length = k ∧ (∀ i, i < k → 0 ≤ el r i ∧ el r i ≤ mxI (ro T i)) ∧ (∀ i j, j < i → i < k → ab (el r j - el r i) ≤ tl T i j ∧ tl T i j ≤ el r j + el r i)
  | 0, _, r => by
    unfold R
    rw [List.mem_singleton]
    constructor
    · rintro rfl
      exact ⟨rfl, fun i hi => absurd hi (by omega), fun i j _ hi => absurd hi (by omega)⟩
    · rintro ⟨h, _⟩
      exact List.length_eq_zero_iff.mp h
  | k + 1, hk, r => by
    have ih := fun r => mem_R hm (show k ≤ n by omega) (r := r)
    have hmk := hm k (by omega)
    rw [R, List.mem_flatMap]
    have e1 : ∀ (row : List Int) (x : Int), row.length = k → (∀ i, i < k → el (row ++ [x]) i = el row i) ∧ el (row ++ [x]) k = x := fun row x hl => by
      constructor
      · intro i hi
        unfold el
        rw [List.getElem?_append_left (by omega)]
      · unfold el
        rw [List.getElem?_append_right (by omega), hl, Nat.sub_self]; rfl
    constructor
    · rintro ⟨row, hrow, hr⟩
      obtain ⟨h1, h2, h3⟩ := (ih row).mp hrow
      obtain ⟨e, he, rfl⟩ := List.mem_map.mp hr
      obtain ⟨he1, he2⟩ := List.mem_filter.mp he
      have he1 := List.mem_range.mp he1
      obtain ⟨q1, q2⟩ := e1 row e h1
      unfold okE at he2
      rw [List.all_eq_true] at he2
      refine ⟨by simp [h1], fun i hi => ?_, fun i j hj hi => ?_⟩
      · by_cases hik : i = k
        · subst hik
          rw [q2]
          omega
        · rw [q1 i (by omega)]
          exact h2 i (by omega)
      · rw [q1 j (by omega)]
        by_cases hik : i = k
        · subst hik
          rw [q2]
          have := he2 j (List.mem_range.mpr hj)
          simpa using this
        · rw [q1 i (by omega)]
          exact h3 i j hj (by omega)
    · rintro ⟨h1, h2, h3⟩
      have hd : r = r.take k ++ [el r k] := by
        have := el_at (r := r) (i := k) (by omega)
        have h4 := List.take_add_one (l := r) (i := k)
        rw [this, List.take_of_length_le (show r.length ≤ k + 1 by omega)] at h4
        exact h4
      have hl : (r.take k).length = k := by rw [List.length_take]; omega
      have q0 : ∀ i, i < k → el (r.take k) i = el r i := fun i hi => by
        unfold el
        rw [List.getElem?_take_of_lt hi]
      refine ⟨r.take k, (ih _).mpr ⟨hl, fun i hi => by rw [q0 i hi]; exact h2 i (by omega), fun i j hj hi => by rw [q0 i hi, q0 j (Nat.lt_trans hj hi)]; exact h3 i j hj (Nat.lt_succ_of_lt hi)⟩, ?_⟩
      have hb := h2 k (by omega)
      have ek : ((el r k).toNat : Int) = el r k := Int.toNat_of_nonneg hb.1
      refine List.mem_map.mpr ⟨(el r k).toNat, List.mem_filter.mpr ⟨List.mem_range.mpr (by omega), ?_⟩, by rw [ek]; exact hd.symm⟩
      unfold okE
      rw [List.all_eq_true]
      intro j hj
      have hj := List.mem_range.mp hj
      rw [q0 j hj, ek]
      have := h3 k j hj (by omega)
      simpa using this
theorem nodup_R (T : List (List Int)) : ∀ k, (R T k).Nodup
  | 0 => by unfold R; simp
  | k + 1 => by
    rw [R]
    unfold List.Nodup
    rw [List.pairwise_flatMap]
    refine ⟨fun row _ => ?_, ?_⟩
    · rw [List.pairwise_map]
      refine (List.Pairwise.filter _ List.nodup_range).imp fun {a b} hab z => hab ?_
      have := List.append_cancel_left z
      have h2 : (a : Int) = b := by simpa using this
      omega
    · refine (nodup_R T k).imp fun {a b} hab x hx y hy z => hab ?_
      obtain ⟨e1, _, rfl⟩ := List.mem_map.mp hx
      obtain ⟨e2, _, rfl⟩ := List.mem_map.mp hy
      exact (List.append_inj' z rfl).1
theorem len_R (T : List (List Int)) {n b : Nat} (hm : ∀ k, k < n → (mxI (ro T k) + 1).toNat ≤ b) : ∀ k, k ≤ n → (R T k).length ≤ b ^ k
  | 0, _ => by unfold R; simp
  | k + 1, hk => by
    have ih := len_R T hm k (by omega)
    rw [R, List.length_flatMap]
    have hb := hm k (by omega)
    have : ∀ l : List (List Int), (l.map fun row => (((List.range (mxI (ro T k) + 1).toNat).filter (okE T k row)).map fun e : Nat => row ++ [(e : Int)]).length).sum ≤ l.length * b := by
      intro l
      induction l with
      | nil => simp
      | cons a l ih =>
        have h2 := List.length_filter_le (okE T k a) (List.range (mxI (ro T k) + 1).toNat)
        rw [List.length_range] at h2
        simp only [List.map_cons, List.sum_cons, List.length_map, List.length_cons, Nat.add_mul, Nat.one_mul] at *
        omega
    have h3 := this (R T k)
    have h4 : (R T k).length * b ≤ b ^ k * b := Nat.mul_le_mul_right b ih
    rw [Nat.pow_succ]
    omega
section
variable {T : List (List Int)} {n : Nat}
theorem max_row (h : Dist T n) {k : Nat} (hk : k < n) : bMaxS [wI (ro T k)] = some (.int (mxI (ro T k))) := max_wI (by
  intro z
  have := h.sq.rlen hk
  rw [z] at this
  simp at this
  omega)
theorem lr1 (h : Sq T n) (hn : n ≤ 30) {k e : Nat} (hk : k < n) {row : List Int} (hr : row.length = k) {B F : Sl} (s : Src) :
    c_least_rows_1 [.rd (tB T), B, .rd (.int (k : Nat)), .rd (wI row), .rd (.int (e : Nat)), F] s = some (.lst ((List.range k).map fun to => .bl (!(decide (ab (el row to - e) ≤ tl T k to) && decide (tl T k to ≤ el row to + e)))), s) := by
  have e5 : rg1 [.int (k : Nat)] = some (rgs k) := rg1_n (by omega)
  have a1 := tB_at h hk
  unfold c_least_rows_1
  refine lc_eq (s1 := s) (ds := rgs k) (by simp [e5]) (by rw [rgs_len]; omega) (cLp_rgs _ k fun to hto => ⟨_, rfl, rfl, ?_⟩)
  have a2 := tB_at2 h hk (show to < n by omega)
  have a3 := wI_at (r := row) (show to < row.length by omega)
  by_cases c1 : ab (el row to - e) ≤ tl T k to
  · simp only [ab] at c1
    simp [a1, a2, a3, -ix_int, ab, c1]
  · simp only [ab] at c1
    simp [a1, a2, a3, -ix_int, ab, c1]
theorem lr2 (h : Dist T n) (hm : ∀ k, k < n → 0 ≤ mxI (ro T k) ∧ mxI (ro T k) ≤ 100) {k : Nat} (hk : k < n) (hlen : (R T k).length ≤ 1000) {C E F : Sl} (s : Src) :
    c_least_rows_2 [.rd (tB T), .ow (.lst ((R T k).map wI)), .rd (.int (k : Nat)), C, E, F] s = some (.lst ((R T (k + 1)).map wI), s) := by
  have hn8 := h.n8
  have a1 := tB_at h.sq hk
  have mr := max_row h hk
  obtain ⟨m1, m2⟩ := hm k hk
  obtain ⟨M, hM⟩ : ∃ M : Nat, mxI (ro T k) + 1 = M := ⟨(mxI (ro T k) + 1).toNat, (Int.toNat_of_nonneg (by omega)).symm⟩
  have e5 : rg1 [.int (mxI (ro T k) + 1)] = some (rgs M) := by rw [hM]; exact rg1_n (by omega)
  unfold c_least_rows_2
  refine lc2_eq (s1 := s) (ds := (R T k).map wI) (by simp) (by rw [List.length_map]; exact hlen) ?_
  rw [R, List.map_flatMap]
  refine cLp2_map (α := List Int) wI (fun row => (((List.range (mxI (ro T k) + 1).toNat).filter (okE T k row)).map fun e : Nat => row ++ [(e : Int)]).map wI) (R T k) fun row hrow => ⟨_, rfl, rfl, ?_⟩
  obtain ⟨hr, _⟩ := (mem_R (fun k hk => (hm k hk).1) (show k ≤ n by omega)).mp hrow
  refine inLc_eq (s1 := s) (ds := rgs M) (by simp [a1, mr, e5, -ix_int]) (by rw [rgs_len]; omega) ?_
  rw [List.map_map, show (mxI (ro T k) + 1).toNat = M by omega]
  refine cLp_filter (α := Nat) (fun j => D.int j) (okE T k row) (fun e => wI (row ++ [(e : Int)])) (List.range M) fun e _ => ⟨_, rfl, ?_, fun _ => ?_⟩
  · have q := lr1 h.sq (show n ≤ 30 by omega) hk hr (e := e) (B := .ow (.lst ((R T k).map wI))) (F := F) s
    have qa : bAny [.lst ((List.range k).map fun to => .bl (!(decide (ab (el row to - e) ≤ tl T k to) && decide (tl T k to ≤ el row to + e))))] = some (.bl (!okE T k row e)) := by
      rw [any_lst, boolL_map, Option.map_some, List.any_map]
      congr 2
      unfold okE
      rw [List.not_all_eq_any_not]
      rfl
    show (bNot (bTr (eCall bAny (eAs c_least_rows_1 eAs0)))) [.rd (tB T), .ow (.lst ((R T k).map wI)), .rd (.int (k : Nat)), .rd (wI row), .rd (.int (e : Nat)), F] s = _
    generalize (List.range k).map (fun to => D.bl (!(decide (ab (el row to - e) ≤ tl T k to) && decide (tl T k to ≤ el row to + e)))) = LL at q qa
    simp [q, qa, -any_lst]
  · have a4 := add_wI row [(e : Int)] (by rw [hr]; simp; omega)
    have e6 : D.tup [.int (e : Nat)] = wI [(e : Int)] := rfl
    simp [e6, a4]
theorem lrows (h : Dist T n) (hm : ∀ k, k < n → 0 ≤ mxI (ro T k) ∧ mxI (ro T k) ≤ 100) (hlen : ∀ k, k ≤ n → (R T k).length ≤ 1000) (s : Src) : F_least_rows [tB T] s = some (tB (LR T n), s) := by
  have hn8 := h.n8
  have e5 : rg1 [.int (n : Nat)] = some (rgs n) := rg1_n (by omega)
  obtain ⟨δ1, e1, t, u, v, w, rfl⟩ := fLp_inv (tg := gN 2) (body := b_least_rows_3) (s := s) (fun k δ => ∃ t u v w : Sl, δ = [.rd (tB T), .ow (.lst ((R T k).map wI)), t, u, v, w]) (rgs n) 0 [.rd (tB T), .ow (.lst ((R T 0).map wI)), .no, .no, .no, .no] ⟨_, _, _, _, rfl⟩ (fun k d δ hd ⟨t, u, v, w, e⟩ => by
    subst e
    obtain ⟨hk, rfl⟩ := rgs_inv hd
    rw [Nat.zero_add]
    refine ⟨rfl, _, _, rfl, ?_, .rd (.int (k : Nat)), u, v, w, rfl⟩
    have q := lr2 h hm hk (hlen k (by omega)) (C := u) (E := v) (F := w) s
    have hl := hlen (k + 1) hk
    unfold b_least_rows_3
    rw [seq_nx (δ1 := [.rd (tB T), .ow (.lst ((R T (k + 1)).map wI)), .rd (.int (k : Nat)), u, v, w]) (s1 := s) (by
      rw [sOwn_ap]
      show Option.bind (c_least_rows_2 [.rd (tB T), .ow (.lst ((R T k).map wI)), .rd (.int (k : Nat)), u, v, w] s) _ = _
      rw [q]; rfl)]
    simp [show ¬ (4000 : Int) < (R T (k + 1)).length by omega])
  rw [rgs_len, Nat.zero_add] at e1
  have c4 : c_least_rows_4 [.rd (tB T), .ow (.lst ((R T n).map wI)), t, u, v, w] s = some (.lst ((LR T n).map wI), s) := by
    unfold c_least_rows_4
    refine lc_eq (s1 := s) (ds := (R T n).map wI) (by simp) (by rw [List.length_map]; have := hlen n (Nat.le_refl _); omega) (cLp_filter (α := List Int) wI _ wI (R T n) fun r hr => ⟨_, rfl, ?_, fun _ => by simp⟩)
    obtain ⟨q1, q2, q3⟩ := (mem_R (fun k hk => (hm k hk).1) (Nat.le_refl n)).mp hr
    obtain ⟨x, q⟩ := lpap h q1 (fun y hy => by
      obtain ⟨i, hi, rfl⟩ := mem_el hy
      exact (q2 i (by omega)).1) (fun i j hi hj hij => by
      rcases Nat.lt_or_gt_of_ne hij with g | g
      · have := (q3 j i g hj).2
        rw [h.sy i j hi hj]; omega
      · have := (q3 i j g hi).2
        omega) s
    cases hg : (List.range n).all (tg T n r) with
    | true =>
      rw [hg, if_pos rfl] at q
      have e : dEq (.str "least") (.str "least") = some (.bl true) := by rw [DL.eq_str (by decide +kernel) (by decide +kernel)]; rfl
      simp [q, e]
    | false =>
      rw [hg, if_neg Bool.false_ne_true] at q
      have e : dEq (.str "loose") (.str "least") = some (.bl false) := by rw [DL.eq_str (by decide +kernel) (by decide +kernel)]; rfl
      simp [q, e]
  unfold F_least_rows
  refine run_rt ?_
  show g_least_rows [.rd (tB T), .no, .no, .no, .no, .no] s = _
  unfold g_least_rows
  rw [seq_nx (δ1 := [.rd (tB T), .no, .no, .no, .no, .no]) (s1 := s) (by simp [chkD h])]
  rw [seq_nx (δ1 := [.rd (tB T), .ow (.lst ((R T 0).map wI)), .no, .no, .no, .no]) (s1 := s) (by simp [R, wI])]
  rw [seq_nx (δ1 := [.rd (tB T), .ow (.lst ((R T n).map wI)), t, u, v, w]) (s1 := s) (by simp [h.sq.len, e5, e1])]
  have et : D.tup ((LR T n).map wI) = tB (LR T n) := rfl
  simp [c4, et]
end
end K38
set_option Elab.async false
set_option linter.all false
set_option maxRecDepth 100000
set_option maxHeartbeats 400000
/-! DI2: tables as own lists of lists. -/
namespace DL
open PySem PySem.Spec PyProof.Rows L2
def lI (r : List Int) : D := .lst (r.map .int)
def lB (Q : List (List Int)) : D := .lst (Q.map lI)
def set2 (Q : List (List Int)) (i j : Nat) (v : Int) : List (List Int) := Q.set i ((ro Q i).set j v)
theorem ixN_nat' {n j : Nat} (h : j < n) : ixN n (j : Int) = some j := by
  unfold ixN
  rw [if_pos (by omega), if_pos (by omega), Int.toNat_natCast]
theorem Sq.set2 {Q : List (List Int)} {n i j : Nat} {v : Int} (h : Sq Q n) (hi : i < n) : Sq (set2 Q i j v) n := ⟨by unfold DL.set2; rw [List.length_set]; exact h.len, fun r hr => by
  unfold DL.set2 at hr
  rcases List.mem_or_eq_of_mem_set hr with hr | rfl
  · exact h.row r hr
  · rw [List.length_set]; exact h.rlen hi⟩
theorem tl_set2 {Q : List (List Int)} {n i j a b : Nat} {v : Int} (h : Sq Q n) (hi : i < n) (hj : j < n) : tl (set2 Q i j v) a b = if a = i ∧ b = j then v else tl Q a b := by
  have hl : i < Q.length := by rw [h.len]; exact hi
  by_cases ha : a = i
  · subst ha
    have e : ro (set2 Q a j v) a = (ro Q a).set j v := by
      unfold set2
      conv => lhs; unfold ro
      rw [List.getElem?_set_self hl]; rfl
    unfold tl
    rw [e]
    by_cases hb : b = j
    · subst hb
      rw [if_pos ⟨rfl, rfl⟩]
      unfold el
      rw [List.getElem?_set_self (by rw [h.rlen hi]; exact hj)]; rfl
    · rw [if_neg (fun z => hb z.2)]
      unfold el
      rw [List.getElem?_set_ne (fun z => hb z.symm)]
  · rw [if_neg (fun z => ha z.1)]
    have e : ro (set2 Q i j v) a = ro Q a := by
      unfold set2
      conv => lhs; unfold ro
      rw [List.getElem?_set_ne (fun z => ha z.symm)]; rfl
    unfold tl
    rw [e]
theorem lB_at {Q : List (List Int)} {n i : Nat} (h : Sq Q n) (hi : i < n) : dIx (lB Q) (.int (i : Nat)) = some (lI (ro Q i)) := at_nat (by rw [List.getElem?_map, h.at_ hi]; rfl)
theorem lB_at2 {Q : List (List Int)} {n i j : Nat} (h : Sq Q n) (hi : i < n) (hj : j < n) : dIx (lI (ro Q i)) (.int (j : Nat)) = some (.int (tl Q i j)) := at_nat (by rw [List.getElem?_map, el_at (by rw [h.rlen hi]; exact hj)]; rfl)
theorem sub2_ap {i : Nat} {fk fl f : FE} {δ : Ev} {s s1 : Src} {Q : List (List Int)} {n a b : Nat} {v : Int} (hd : δ[i]? = some (.ow (lB Q))) (h : Sq Q n) (ha : a < n) (hb : b < n) (hf : f δ s = some (.int v, s1)) (hk : fk δ s1 = some (.int (a : Nat), s1)) (hl : fl δ s1 = some (.int (b : Nat), s1)) :
    sSub2 i fk fl f δ s = some (.nx (δ.set i (.ow (lB (set2 Q a b v)))), s1) := by
  unfold sSub2
  rw [bd_ap, hf, Option.bind_some, bd_ap, hk, Option.bind_some, bd_ap, hl, Option.bind_some, hd]
  show M.of ((ixN (Q.map lI).length (a : Int)).bind _) s1 = _
  rw [List.length_map, h.len, ixN_nat' ha, Option.bind_some, List.getElem?_map, h.at_ ha]
  show M.of (if _ then _ else _) s1 = _
  rw [if_pos ⟨rfl, lfs_ints _⟩, List.length_map, h.rlen ha, ixN_nat' hb, Option.map_some, of_some]
  have e : (Q.map lI).set a (D.lst (((ro Q a).map D.int).set b (.int v))) = (set2 Q a b v).map lI := by
    unfold set2
    rw [List.map_set]
    congr 1
    unfold lI
    rw [List.map_set]
  rw [e]; rfl
/-- loops whose turns may draw -/
theorem fLp_invS {tg : D → Ev → Option Ev} {body : FS} (I : Nat → Ev → Src → Prop) : ∀ (ds : List D) (k : Nat) (δ : Ev) (s : Src), I k δ s →
    (∀ (i : Nat) (d : D) (δ : Ev) (s : Src), ds[i]? = some d → I (k + i) δ s → d.lf = true ∧ ∃ δ1 δ2 s2, tg d δ = some δ1 ∧ body δ1 s = some (.nx δ2, s2) ∧ I (k + i + 1) δ2 s2) → ∃ δ' s', fLp tg body ds δ s = some (.nx δ', s') ∧ I (k + ds.length) δ' s'
  | [], k, δ, s, h, _ => ⟨δ, s, rfl, h⟩
  | d :: ds, k, δ, s, h, hs => by
    obtain ⟨hl, δ1, δ2, s2, h1, h2, h3⟩ := hs 0 d δ s rfl h
    obtain ⟨δ', s', h4, h5⟩ := fLp_invS I ds (k + 1) δ2 s2 h3 fun i e δ s he hi => by
      have := hs (i + 1) e δ s (by simpa using he) (by rw [show k + (i + 1) = k + 1 + i by omega]; exact hi)
      rw [show k + (i + 1) + 1 = k + 1 + i + 1 by omega] at this
      exact this
    refine ⟨δ', s', ?_, by rw [List.length_cons, show k + (ds.length + 1) = k + 1 + ds.length by omega]; exact h5⟩
    rw [fLp]
    simp only [bd_ap, hl, if_true, h1, of_some, Option.bind_some, h2]
    exact h4
theorem tup_lI (r : List Int) : bTup [lI r] = some (wI r) := rfl
theorem list_wI (r : List Int) : bListF [wI r] = some (lI r) := by
  show (some (r.map D.int)).bind (fun xs => if lfs xs = true then some (D.lst xs) else none) = _
  rw [Option.bind_some, if_pos (lfs_ints r)]; rfl
end DL
set_option Elab.async false
set_option linter.all false
set_option maxRecDepth 100000
set_option maxHeartbeats 400000
/-! K38s: the tables that the law makes. -/
namespace K38
open PySem PySem.Spec PyProof.Rows L2 DL
def mn (x y : Int) : Int := if y < x then y else x
structure Wk (n : Nat) (top : Int) (k : Nat) (Q : List (List Int)) : Prop where
  sq : Sq Q n
  dg : ∀ i, i < n → tl Q i i = 0
  sy : ∀ i j, i < n → j < n → tl Q i j = tl Q j i
  ps : ∀ i j, i < n → j < n → i ≠ j → 0 < tl Q i j
  hi : ∀ i j, i < n → j < n → tl Q i j ≤ top
  tr : ∀ m i j, m < k → m < n → i < n → j < n → tl Q i j ≤ tl Q i m + tl Q m j
structure St (n : Nat) (O : List (List Int)) (k i j : Nat) (Q : List (List Int)) : Prop where
  sq : Sq Q n
  at_ : ∀ a b, a < n → b < n → tl Q a b = if a < i ∨ (a = i ∧ b < j) then mn (tl O a b) (tl O a k + tl O k b) else tl O a b
theorem Wk.step {n : Nat} {top : Int} {k : Nat} {O Q : List (List Int)} (h : Wk n top k O) (hk : k < n) (st : St n O k n 0 Q) : Wk n top (k + 1) Q := by
  have e : ∀ a b, a < n → b < n → tl Q a b = mn (tl O a b) (tl O a k + tl O k b) := fun a b ha hb => by
    rw [st.at_ a b ha hb, if_pos (.inl ha)]
  have nn : ∀ a b, a < n → b < n → 0 ≤ tl O a b := fun a b ha hb => by
    by_cases hab : a = b
    · subst hab; rw [h.dg a ha]; exact Int.le_refl _
    · have := h.ps a b ha hb hab; omega
  refine ⟨st.sq, fun i hi => ?_, fun i j hi hj => ?_, fun i j hi hj hij => ?_, fun i j hi hj => ?_, fun m i j hm hmn hi hj => ?_⟩
  · rw [e i i hi hi, h.dg i hi]
    have := nn i k hi hk
    have := nn k i hk hi
    unfold mn
    split <;> omega
  · rw [e i j hi hj, e j i hj hi, h.sy i j hi hj, h.sy i k hi hk, h.sy k j hk hj, Int.add_comm (tl O k i)]
  · rw [e i j hi hj]
    have h1 := h.ps i j hi hj hij
    have h2 : 0 < tl O i k + tl O k j := by
      by_cases hik : i = k
      · subst hik
        have := h.ps i j hi hj hij
        rw [h.dg i hi]; omega
      · have := h.ps i k hi hk hik
        have := nn k j hk hj
        omega
    unfold mn
    split <;> omega
  · rw [e i j hi hj]
    have := h.hi i j hi hj
    unfold mn
    split <;> omega
  · rw [e i j hi hj, e i m hi hmn, e m j hmn hj]
    have t1 := nn m k hmn hk
    have t2 := nn k m hk hmn
    have t3 := nn i k hi hk
    have t4 := nn k j hk hj
    by_cases hmk : m < k
    · have q1 := h.tr m i j hmk hmn hi hj
      have q2 := h.tr m i k hmk hmn hi hk
      have q3 := h.tr m k j hmk hmn hk hj
      unfold mn
      split <;> split <;> split <;> omega
    · have : m = k := by omega
      subst this
      rw [h.dg m hmn]
      unfold mn
      split <;> split <;> split <;> omega
theorem St.start {n : Nat} {O : List (List Int)} {k : Nat} (h : Sq O n) : St n O k 0 0 O := ⟨h, fun a b _ _ => by rw [if_neg (by omega)]⟩
theorem St.next {n : Nat} {O Q : List (List Int)} {k i : Nat} (h : St n O k i n Q) : St n O k (i + 1) 0 Q := ⟨h.sq, fun a b ha hb => by
  rw [h.at_ a b ha hb]
  by_cases hai : a < i + 1
  · rw [if_pos (by omega), if_pos (by omega)]
  · rw [if_neg (by omega), if_neg (by omega)]⟩
theorem St.put {n : Nat} {O Q : List (List Int)} {k i j : Nat} (h : St n O k i j Q) (hk : k < n) (hi : i < n) (hj : j < n) (h0 : tl O k k = 0) : St n O k i (j + 1) (set2 Q i j (mn (tl Q i j) (tl Q i k + tl Q k j))) := ⟨h.sq.set2 hi, fun a b ha hb => by
  rw [tl_set2 h.sq hi hj]
  have mk : ∀ x : Int, mn x (x + 0) = x := fun x => by unfold mn; split <;> omega
  have mk2 : ∀ x : Int, mn x (0 + x) = x := fun x => by unfold mn; split <;> omega
  have e1 : tl Q i k = tl O i k := by
    rw [h.at_ i k hi hk]
    split
    · rw [h0, mk]
    · rfl
  have e2 : tl Q k j = tl O k j := by
    rw [h.at_ k j hk hj]
    split
    · rw [h0, mk2]
    · rfl
  by_cases hab : a = i ∧ b = j
  · obtain ⟨rfl, rfl⟩ := hab
    rw [if_pos ⟨rfl, rfl⟩, if_pos (.inr ⟨rfl, Nat.lt_succ_self _⟩), e1, e2, h.at_ a b ha hb, if_neg (by omega)]
  · rw [if_neg hab, h.at_ a b ha hb]
    by_cases hc : a < i ∨ (a = i ∧ b < j)
    · rw [if_pos hc, if_pos (by omega)]
    · rw [if_neg hc, if_neg (by omega)]⟩
theorem sh2 {n : Nat} {Q : List (List Int)} (h : Sq Q n) {k i j : Nat} (hk : k < n) (hi : i < n) (hj : j < n) {A B F : Sl} (s : Src) :
    b__law_short_2 [A, B, .ow (lB Q), .rd (.int (k : Nat)), .rd (.int (i : Nat)), .rd (.int (j : Nat)), F] s = some (.nx [A, B, .ow (lB (set2 Q i j (mn (tl Q i j) (tl Q i k + tl Q k j)))), .rd (.int (k : Nat)), .rd (.int (i : Nat)), .rd (.int (j : Nat)), F], s) := by
  have a1 := lB_at h hi
  have a2 := lB_at2 h hi hj
  have a3 := lB_at2 h hi hk
  have a4 := lB_at h hk
  have a5 := lB_at2 h hk hj
  unfold b__law_short_2
  exact sub2_ap (n := n) (a := i) (b := j) (v := mn (tl Q i j) (tl Q i k + tl Q k j)) rfl h hi hj (by simp [a1, a2, a3, a4, a5, -ix_int, mn]) (by simp) (by simp)
theorem short {T : List (List Int)} {n : Nat} {top : Int} (hn : n ≤ 30) (h : Wk n top 0 T) (s : Src) : ∃ Q, Wk n top n Q ∧ F__law_short [tB T] s = some (tB Q, s) := by
  have e5 : rg1 [.int (n : Nat)] = some (rgs n) := rg1_n (by omega)
  have lj : ∀ (O Q : List (List Int)) (k i : Nat) (t F : Sl), Sq O n → tl O k k = 0 → k < n → i < n → St n O k i 0 Q → ∃ Q' t', b__law_short_3 [.rd (tB T), .rd (.int (n : Nat)), .ow (lB Q), .rd (.int (k : Nat)), .rd (.int (i : Nat)), t, F] s = some (.nx [.rd (tB T), .rd (.int (n : Nat)), .ow (lB Q'), .rd (.int (k : Nat)), .rd (.int (i : Nat)), t', F], s) ∧ St n O k i n Q' := fun O Q k i t F hO h0 hk hi hQ => by
    obtain ⟨δ1, e1, Q', t', rfl, q⟩ := fLp_inv (tg := gN 5) (body := b__law_short_2) (s := s) (fun j δ => ∃ (Q : List (List Int)) (t : Sl), δ = [.rd (tB T), .rd (.int (n : Nat)), .ow (lB Q), .rd (.int (k : Nat)), .rd (.int (i : Nat)), t, F] ∧ St n O k i j Q) (rgs n) 0 _ ⟨Q, t, rfl, hQ⟩ (fun j d δ hd ⟨Q, t, e, q⟩ => by
      subst e
      obtain ⟨hj, rfl⟩ := rgs_inv hd
      rw [Nat.zero_add] at q ⊢
      exact ⟨rfl, _, _, rfl, sh2 q.sq hk hi hj s, _, _, rfl, q.put hk hi hj h0⟩)
    rw [rgs_len, Nat.zero_add] at q
    refine ⟨Q', t', ?_, q⟩
    unfold b__law_short_3
    simp [e5]
    exact e1
  have li : ∀ (O : List (List Int)) (k : Nat) (t u F : Sl), Sq O n → tl O k k = 0 → k < n → ∃ Q' t' u', b__law_short_4 [.rd (tB T), .rd (.int (n : Nat)), .ow (lB O), .rd (.int (k : Nat)), t, u, F] s = some (.nx [.rd (tB T), .rd (.int (n : Nat)), .ow (lB Q'), .rd (.int (k : Nat)), t', u', F], s) ∧ St n O k n 0 Q' := fun O k t u F hO h0 hk => by
    obtain ⟨δ1, e1, Q', t', u', rfl, q⟩ := fLp_inv (tg := gN 4) (body := b__law_short_3) (s := s) (fun i δ => ∃ (Q : List (List Int)) (t u : Sl), δ = [.rd (tB T), .rd (.int (n : Nat)), .ow (lB Q), .rd (.int (k : Nat)), t, u, F] ∧ St n O k i 0 Q) (rgs n) 0 _ ⟨O, t, u, rfl, .start hO⟩ (fun i d δ hd ⟨Q, t, u, e, q⟩ => by
      subst e
      obtain ⟨hi, rfl⟩ := rgs_inv hd
      rw [Nat.zero_add] at q ⊢
      obtain ⟨Q', u', e2, q2⟩ := lj O Q k i u F hO h0 hk hi q
      exact ⟨rfl, _, _, rfl, e2, _, _, _, rfl, q2.next⟩)
    rw [rgs_len, Nat.zero_add] at q
    refine ⟨Q', t', u', ?_, q⟩
    unfold b__law_short_4
    simp [e5]
    exact e1
  obtain ⟨δ1, e1, Q, t, u, v, rfl, q⟩ := fLp_inv (tg := gN 3) (body := b__law_short_4) (s := s) (fun k δ => ∃ (Q : List (List Int)) (t u v : Sl), δ = [.rd (tB T), .rd (.int (n : Nat)), .ow (lB Q), t, u, v, .no] ∧ Wk n top k Q) (rgs n) 0 _ ⟨T, .no, .no, .no, rfl, h⟩ (fun k d δ hd ⟨Q, t, u, v, e, q⟩ => by
    subst e
    obtain ⟨hk, rfl⟩ := rgs_inv hd
    rw [Nat.zero_add] at q ⊢
    obtain ⟨Q', t', u', e2, q2⟩ := li Q k u v .no q.sq (q.dg k hk) hk
    exact ⟨rfl, _, _, rfl, e2, _, _, _, _, rfl, q.step hk q2⟩)
  rw [rgs_len, Nat.zero_add] at q
  refine ⟨Q, q, ?_⟩
  have c1 : c__law_short_1 [.rd (tB T), .rd (.int (n : Nat)), .no, .no, .no, .no, .no] s = some (lB T, s) := by
    unfold c__law_short_1
    exact lc_eq (s1 := s) (ds := T.map wI) (by simp) (by rw [List.length_map, h.sq.len]; omega) (cLp_map (α := List Int) wI lI T fun r _ => ⟨_, rfl, rfl, by simp [list_wI]⟩)
  have c5 : c__law_short_5 [.rd (tB T), .rd (.int (n : Nat)), .ow (lB Q), t, u, v, .no] s = some (.lst (Q.map wI), s) := by
    unfold c__law_short_5
    exact lc_eq (s1 := s) (ds := Q.map lI) (by simp [lB]) (by rw [List.length_map, q.sq.len]; omega) (cLp_map (α := List Int) lI wI Q fun r _ => ⟨_, rfl, rfl, by simp [tup_lI]⟩)
  unfold F__law_short
  refine run_rt ?_
  show g__law_short [.rd (tB T), .no, .no, .no, .no, .no, .no] s = _
  unfold g__law_short
  rw [seq_nx (δ1 := [.rd (tB T), .rd (.int (n : Nat)), .no, .no, .no, .no, .no]) (s1 := s) (by simp [h.sq.len])]
  rw [seq_nx (δ1 := [.rd (tB T), .rd (.int (n : Nat)), .ow (lB T), .no, .no, .no, .no]) (s1 := s) (by simp [c1])]
  rw [seq_nx (δ1 := [.rd (tB T), .rd (.int (n : Nat)), .ow (lB Q), t, u, v, .no]) (s1 := s) (by simp [e5, e1])]
  have et : D.tup (Q.map wI) = tB Q := rfl
  simp [c5, et]
end K38
set_option Elab.async false
set_option linter.all false
set_option maxRecDepth 100000
set_option maxHeartbeats 400000
/-! K38t: drawn tables. -/
namespace K38
open PySem PySem.Spec PyProof.Rows L2 DL
structure Tb (n : Nat) (top : Int) (i j : Nat) (Q : List (List Int)) : Prop where
  sq : Sq Q n
  dg : ∀ a, a < n → tl Q a a = 0
  sy : ∀ a b, a < n → b < n → tl Q a b = tl Q b a
  lo : ∀ a b, a < n → b < n → 0 ≤ tl Q a b ∧ tl Q a b ≤ top
  dn : ∀ a b, a < n → b < a → (a < i ∨ (a = i ∧ b < j)) → 1 ≤ tl Q a b
def Z (n : Nat) : List (List Int) := (List.range n).map fun _ => List.replicate n 0
theorem Z_sq (n : Nat) : Sq (Z n) n := ⟨by simp [Z], fun r hr => by
  obtain ⟨_, _, rfl⟩ := List.mem_map.mp hr
  simp⟩
theorem Z_tl {n a b : Nat} (ha : a < n) (hb : b < n) : tl (Z n) a b = 0 := by
  have e : ro (Z n) a = List.replicate n 0 := by
    unfold ro Z
    rw [List.getElem?_map, List.getElem?_range ha]; rfl
  unfold tl
  rw [e]
  unfold el
  rw [List.getElem?_replicate, if_pos hb]; rfl
theorem Tb.start {n : Nat} {top : Int} (h : 1 ≤ top) : Tb n top 0 0 (Z n) := ⟨Z_sq n, fun a ha => Z_tl ha ha, fun a b ha hb => by rw [Z_tl ha hb, Z_tl hb ha], fun a b ha hb => by rw [Z_tl ha hb]; omega, fun a b _ _ h => absurd h (by omega)⟩
theorem Tb.next {n : Nat} {top : Int} {i : Nat} {Q : List (List Int)} (h : Tb n top i i Q) : Tb n top (i + 1) 0 Q := ⟨h.sq, h.dg, h.sy, h.lo, fun a b ha hb hc => h.dn a b ha hb (by omega)⟩
theorem Tb.put {n : Nat} {top : Int} {i j : Nat} {v : Int} {Q : List (List Int)} (h : Tb n top i j Q) (hi : i < n) (hj : j < i) (h1 : 1 ≤ v) (h2 : v ≤ top) : Tb n top i (j + 1) (set2 (set2 Q i j v) j i v) := by
  have hjn : j < n := by omega
  have e : ∀ a b, a < n → b < n → tl (set2 (set2 Q i j v) j i v) a b = if (a = j ∧ b = i) ∨ (a = i ∧ b = j) then v else tl Q a b := fun a b _ _ => by
    rw [tl_set2 (h.sq.set2 hi) hjn hi, tl_set2 h.sq hi hjn]
    by_cases c1 : a = j ∧ b = i
    · rw [if_pos c1, if_pos (.inl c1)]
    · rw [if_neg c1]
      by_cases c2 : a = i ∧ b = j
      · rw [if_pos c2, if_pos (.inr c2)]
      · rw [if_neg c2, if_neg (fun z => z.elim c1 c2)]
  refine ⟨(h.sq.set2 hi).set2 hjn, fun a ha => ?_, fun a b ha hb => ?_, fun a b ha hb => ?_, fun a b ha hb hc => ?_⟩
  · rw [e a a ha ha, if_neg (by omega)]; exact h.dg a ha
  · rw [e a b ha hb, e b a hb ha, h.sy a b ha hb]
    by_cases c : (a = j ∧ b = i) ∨ (a = i ∧ b = j)
    · rw [if_pos c, if_pos (by omega)]
    · rw [if_neg c, if_neg (by omega)]
  · rw [e a b ha hb]
    split
    · omega
    · exact h.lo a b ha hb
  · rw [e a b ha (by omega)]
    split
    · exact h1
    · exact h.dn a b ha hb (by omega)
theorem Tb.wk {n : Nat} {top : Int} {Q : List (List Int)} (h : Tb n top n 0 Q) : Wk n top 0 Q := ⟨h.sq, h.dg, h.sy, fun i j hi hj hij => by
  rcases Nat.lt_or_gt_of_ne hij with g | g
  · have := h.dn j i hj g (.inl hj)
    rw [h.sy i j hi hj]; omega
  · have := h.dn i j hi g (.inl hi)
    omega, fun i j hi hj => (h.lo i j hi hj).2, fun m _ _ hm => absurd hm (by omega)⟩
theorem tab {n : Nat} {top : Int} (hn : n ≤ 30) (h1 : 1 ≤ top) (h2 : top ≤ 1000) (s : Src) : ∃ Q s', Wk n top 0 Q ∧ F__law_table [.src, .int (n : Nat), .int top] s = some (tB Q, s') := by
  have e5 : rg1 [.int (n : Nat)] = some (rgs n) := rg1_n (by omega)
  have c1 : c__law_table_1 [.rd .src, .rd (.int (n : Nat)), .rd (.int top), .no, .no, .no, .no, .no] s = some (lB (Z n), s) := by
    unfold c__law_table_1
    have e : lB (Z n) = .lst ((List.range n).map fun _ => lI (List.replicate n 0)) := by
      unfold lB Z
      rw [List.map_map]; rfl
    rw [e]
    refine lc_eq (s1 := s) (ds := rgs n) (by simp [e5]) (by rw [rgs_len]; omega) (cLp_rgs _ n fun k _ => ⟨_, rfl, rfl, ?_⟩)
    have em : dMul (.lst [.int 0]) (.int (n : Nat)) = some (lI (List.replicate n 0)) := by
      show (if _ then _ else _) = _
      rw [if_pos ⟨by omega, by omega, by simp, by simp⟩]
      congr 1
      unfold lI
      congr 1
      rw [List.map_replicate, Int.toNat_natCast]
      have : ∀ k : Nat, (List.replicate k [D.int 0]).flatten = List.replicate k (D.int 0) := fun k => by
        induction k with
        | zero => rfl
        | succ k ih => rw [List.replicate_succ, List.flatten_cons, ih, List.replicate_succ]; rfl
      exact this n
    unfold eRepF
    rw [bd_ap]
    have e0 : (eLst (eAs (eC (.int 0)) eAs0)) [.rd .src, .rd (.int (n : Nat)), .rd (.int top), .no, .no, .no, .rd (.int (k : Nat)), .no] s = some (.lst [.int 0], s) := by simp
    show Option.bind ((eLst (eAs (eC (.int 0)) eAs0)) [.rd .src, .rd (.int (n : Nat)), .rd (.int top), .no, .no, .no, .rd (.int (k : Nat)), .no] s) _ = _
    rw [e0, Option.bind_some, bd_ap]
    show Option.bind (some (D.int (n : Nat), s)) _ = _
    rw [Option.bind_some]
    show M.of (dMul (.lst [.int 0]) (.int (n : Nat))) s = _
    rw [em]; rfl
  have lj : ∀ (Q : List (List Int)) (i : Nat) (t u v : Sl) (s : Src), i < n → Tb n top i 0 Q → ∃ Q' t' s', b__law_table_3 [.rd .src, .rd (.int (n : Nat)), .rd (.int top), .ow (lB Q), .rd (.int (i : Nat)), t, u, v] s = some (.nx [.rd .src, .rd (.int (n : Nat)), .rd (.int top), .ow (lB Q'), .rd (.int (i : Nat)), t', u, v], s') ∧ Tb n top i i Q' := fun Q i t u v s hi hQ => by
    obtain ⟨δ1, s1, e1, Q', t', rfl, q⟩ := fLp_invS (tg := gN 5) (body := b__law_table_2) (fun j δ _ => ∃ (Q : List (List Int)) (t : Sl), δ = [.rd .src, .rd (.int (n : Nat)), .rd (.int top), .ow (lB Q), .rd (.int (i : Nat)), t, u, v] ∧ Tb n top i j Q) (rgs i) 0 _ s ⟨Q, t, rfl, hQ⟩ (fun j d δ s hd ⟨Q, t, e, q⟩ => by
      subst e
      obtain ⟨hj, rfl⟩ := rgs_inv hd
      rw [Nat.zero_add] at q ⊢
      have lo := take_lo s (m := top) (by omega)
      have hi2 := take_hi s (m := top) (by omega)
      have dr := draw_eq (s := s) (m := top) ⟨by omega, by omega⟩
      have q2 := q.put hi hj (v := 1 + (take s top).1) (by omega) (by omega)
      have sq1 := q.sq.set2 (j := j) (v := 1 + (take s top).1) hi
      have a1 := lB_at sq1 hi
      have a2 := lB_at2 sq1 hi (show j < n by omega)
      rw [tl_set2 q.sq hi (show j < n by omega), if_pos ⟨rfl, rfl⟩] at a2
      refine ⟨rfl, _, _, (take s top).2, rfl, ?_, _, .rd (.int (j : Nat)), rfl, q2⟩
      unfold b__law_table_2
      rw [seq_nx (sub2_ap (s1 := (take s top).2) (n := n) (a := i) (b := j) (v := 1 + (take s top).1) (Q := Q) rfl q.sq hi (by omega) (by simp [dr]) (by simp) (by simp))]
      exact sub2_ap (s1 := (take s top).2) (n := n) (a := j) (b := i) (v := 1 + (take s top).1) rfl sq1 (by omega) hi (by simp [a1, a2, -ix_int]) (by simp) (by simp))
    rw [rgs_len, Nat.zero_add] at q
    have e6 : rg1 [.int (i : Nat)] = some (rgs i) := rg1_n (by omega)
    refine ⟨Q', t', s1, ?_, q⟩
    unfold b__law_table_3
    simp [e6]
    exact e1
  obtain ⟨δ1, s1, e1, Q, t, u, rfl, q⟩ := fLp_invS (tg := gN 4) (body := b__law_table_3) (fun i δ _ => ∃ (Q : List (List Int)) (t u : Sl), δ = [.rd .src, .rd (.int (n : Nat)), .rd (.int top), .ow (lB Q), t, u, .no, .no] ∧ Tb n top i 0 Q) (rgs n) 0 _ s ⟨Z n, .no, .no, rfl, .start h1⟩ (fun i d δ s hd ⟨Q, t, u, e, q⟩ => by
    subst e
    obtain ⟨hi, rfl⟩ := rgs_inv hd
    rw [Nat.zero_add] at q ⊢
    obtain ⟨Q', t', s', e2, q2⟩ := lj Q i u .no .no s hi q
    exact ⟨rfl, _, _, s', rfl, e2, _, _, _, rfl, q2.next⟩)
  rw [rgs_len, Nat.zero_add] at q
  refine ⟨Q, s1, q.wk, ?_⟩
  have c4 : c__law_table_4 [.rd .src, .rd (.int (n : Nat)), .rd (.int top), .ow (lB Q), t, u, .no, .no] s1 = some (.lst (Q.map wI), s1) := by
    unfold c__law_table_4
    exact lc_eq (s1 := s1) (ds := Q.map lI) (by simp [lB]) (by rw [List.length_map, q.sq.len]; omega) (cLp_map (α := List Int) lI wI Q fun r _ => ⟨_, rfl, rfl, by simp [tup_lI]⟩)
  unfold F__law_table
  refine run_rt ?_
  show g__law_table [.rd .src, .rd (.int (n : Nat)), .rd (.int top), .no, .no, .no, .no, .no] s = _
  unfold g__law_table
  rw [seq_nx (δ1 := [.rd .src, .rd (.int (n : Nat)), .rd (.int top), .ow (lB (Z n)), .no, .no, .no, .no]) (s1 := s) (by rw [sOwn_ap, c1]; rfl)]
  rw [seq_nx (δ1 := [.rd .src, .rd (.int (n : Nat)), .rd (.int top), .ow (lB Q), t, u, .no, .no]) (s1 := s1) (by simp [e5, e1])]
  have et : D.tup (Q.map wI) = tB Q := rfl
  simp [c4, et]
theorem pick {m : D} {xs : List D} (hm : m.items = some xs) (hl : bLen [m] = some (.int (xs.length : Nat))) (h0 : 0 < xs.length) (h1 : xs.length ≤ 1000000) (s : Src) : ∃ x ∈ xs, ∃ s', F__law_pick [.src, m] s = some (x, s') := by
  have lo := take_lo s (m := (xs.length : Nat)) (by omega)
  have hi := take_hi s (m := (xs.length : Nat)) (by omega)
  have dr := draw_eq (s := s) (m := (xs.length : Nat)) ⟨by omega, by omega⟩
  obtain ⟨k, hk⟩ : ∃ k : Nat, (take s (xs.length : Nat)).1 = k := ⟨_, (Int.toNat_of_nonneg lo).symm⟩
  rw [hk] at dr lo hi
  have hkl : k < xs.length := by omega
  refine ⟨xs[k], List.getElem_mem _, (take s (xs.length : Nat)).2, ?_⟩
  have ei : dIx m (.int (k : Nat)) = some xs[k] := by
    show m.items.bind (fun xs => atI xs (k : Int)) = _
    rw [hm, Option.bind_some]
    exact at_nat (List.getElem?_eq_getElem hkl)
  unfold F__law_pick
  refine run_rt ?_
  show g__law_pick [.rd .src, .rd m] s = _
  unfold g__law_pick
  simp [hl, dr, ei, -ix_int]
end K38
set_option Elab.async false
set_option linter.all false
set_option maxRecDepth 100000
set_option maxHeartbeats 400000
/-! M38: the plain law of least rows. -/
namespace K38
open PySem PySem.Spec PyProof.Rows L2 DL
theorem Wk.dist {n : Nat} {top : Int} {Q : List (List Int)} (h : Wk n top n Q) (h1 : 1 ≤ n) (h8 : n ≤ 8) (ht : top ≤ 1000) : Dist Q n where
  sq := h.sq
  n1 := h1
  n8 := h8
  lo := fun i j hi hj => by
    by_cases e : i = j
    · subst e; rw [h.dg i hi]; exact Int.le_refl _
    · have := h.ps i j hi hj e; omega
  hi := fun i j hi hj => Int.le_trans (h.hi i j hi hj) ht
  dg := h.dg
  sy := h.sy
  ps := h.ps
  tr := fun i j k hi hj hk => h.tr k i j hk hk hi hj
/-- a row that is least among those that sum to distances -/
structure Lst (T : List (List Int)) (n : Nat) (r : List Int) : Prop where
  len : r.length = n
  nn : ∀ i, i < n → 0 ≤ el r i
  gp : ∀ i j, i < n → j < n → i ≠ j → el r i ≤ el r j + tl T i j
  sm : ∀ i j, i < n → j < n → i ≠ j → tl T i j ≤ el r i + el r j
  ti : ∀ i, i < n → ∃ j, j < n ∧ el r i + el r j = tl T i j
section
variable {T : List (List Int)} {n : Nat} {r : List Int}
theorem mx_le (h : Sq T n) {i j : Nat} (hi : i < n) (hj : j < n) : tl T i j ≤ mxI (ro T i) := by
  have hl := h.rlen hi
  exact (mxI_spec (ro T i) (by intro z; rw [z] at hl; simp at hl; omega)).2 _ (el_mem (by omega))
theorem mx_in (h : Sq T n) {i : Nat} (hi : i < n) : ∃ j, j < n ∧ mxI (ro T i) = tl T i j := by
  have hl := h.rlen hi
  obtain ⟨j, hj, e⟩ := mem_el (mxI_spec (ro T i) (by intro z; rw [z] at hl; simp at hl; omega)).1
  exact ⟨j, by omega, e.symm⟩
theorem mx_nn (h : Dist T n) {i : Nat} (hi : i < n) : 0 ≤ mxI (ro T i) := by
  have := mx_le h.sq hi hi
  rw [h.dg i hi] at this
  exact this
theorem Lst.up (h : Lst T n r) (hT : Sq T n) {i : Nat} (hi : i < n) : el r i ≤ mxI (ro T i) := by
  obtain ⟨j, hj, e⟩ := h.ti i hi
  have := mx_le hT hi hj
  have := h.nn j hj
  omega
theorem ab_le {x y : Int} : ab x ≤ y ↔ x ≤ y ∧ -x ≤ y := by unfold ab; split <;> omega
theorem mem_LR (h : Dist T n) : r ∈ LR T n ↔ Lst T n r := by
  unfold LR
  rw [List.mem_filter, mem_R (fun k hk => mx_nn h hk) (Nat.le_refl n), List.all_eq_true]
  constructor
  · rintro ⟨⟨h1, h2, h3⟩, h4⟩
    refine ⟨h1, fun i hi => (h2 i hi).1, fun i j hi hj hij => ?_, fun i j hi hj hij => ?_, fun i hi => ?_⟩
    · rcases Nat.lt_or_gt_of_ne hij with g | g
      · have := (ab_le.mp (h3 j i g hj).1)
        rw [h.sy i j hi hj]; omega
      · have := (ab_le.mp (h3 i j g hi).1)
        omega
    · rcases Nat.lt_or_gt_of_ne hij with g | g
      · have := (h3 j i g hj).2
        rw [h.sy i j hi hj]; omega
      · have := (h3 i j g hi).2
        omega
    · have := h4 i (List.mem_range.mpr hi)
      unfold tg at this
      obtain ⟨j, hj, e⟩ := List.any_eq_true.mp this
      exact ⟨j, List.mem_range.mp hj, by simpa using e⟩
  · intro q
    refine ⟨⟨q.len, fun i hi => ⟨q.nn i hi, q.up h.sq hi⟩, fun i j hj hi => ⟨ab_le.mpr ⟨?_, ?_⟩, ?_⟩⟩, fun i hi => ?_⟩
    · have := q.gp j i (by omega) hi (by omega)
      rw [h.sy j i (by omega) hi] at this
      omega
    · have := q.gp i j hi (by omega) (by omega)
      omega
    · have := q.sm i j hi (by omega) (by omega)
      omega
    · have hi := List.mem_range.mp hi
      obtain ⟨j, hj, e⟩ := q.ti i hi
      unfold tg
      exact List.any_eq_true.mpr ⟨j, List.mem_range.mpr hj, by simpa using e⟩
theorem Lst.tg (h : Lst T n r) : (List.range n).all (tg T n r) = true := by
  rw [List.all_eq_true]
  intro i hi
  have hi := List.mem_range.mp hi
  obtain ⟨j, hj, e⟩ := h.ti i hi
  unfold K38.tg
  exact List.any_eq_true.mpr ⟨j, List.mem_range.mpr hj, by simpa using e⟩
theorem line (h : Dist T n) {k : Nat} (hk : k < n) : Lst T n (ro T k) where
  len := h.sq.rlen hk
  nn := fun i hi => h.lo k i hk hi
  gp := fun i j hi hj _ => by
    show tl T k i ≤ tl T k j + tl T i j
    have := h.tr k i j hk hi hj
    rw [h.sy i j hi hj]; omega
  sm := fun i j hi hj _ => by
    show tl T i j ≤ tl T k i + tl T k j
    have := h.tr i j k hi hj hk
    rw [h.sy i k hi hk] at this
    omega
  ti := fun i hi => ⟨k, hk, by
    show tl T k i + tl T k k = tl T i k
    rw [h.dg k hk, h.sy k i hk hi]; omega⟩
/-- none lesser -/
theorem Lst.least (h : Lst T n r) (hT : Dist T n) {q : List Int} (hq : Lst T n q) (hle : ∀ i, i < n → el q i ≤ el r i) : q = r := by
  refine row_ext (by rw [hq.len, h.len]) fun i hi => ?_
  have hi : i < n := by rw [← hq.len]; exact hi
  obtain ⟨j, hj, e⟩ := h.ti i hi
  have l1 := hle i hi
  have l2 := hle j hj
  by_cases hij : i = j
  · subst hij
    rw [hT.dg i hi] at e
    have := hq.nn i hi
    omega
  · have := hq.sm i j hi hj hij
    omega
theorem gp_is {a b : List Int} {m : Int} (ha : a.length = n) (hb : b.length = n) (h1 : 1 ≤ n) (hle : ∀ i, i < n → ab (el a i - el b i) ≤ m) (hex : ∃ i, i < n ∧ ab (el a i - el b i) = m) : gp a b = m := by
  have hz : (a.zip b).length = n := by rw [List.length_zip, ha, hb, Nat.min_self]
  have hget : ∀ i, i < n → (a.zip b)[i]? = some (el a i, el b i) := fun i hi => by
    rw [List.getElem?_zip_eq_some]
    exact ⟨el_at (by omega), el_at (by omega)⟩
  have hne : (a.zip b).map (fun p => ab (p.1 - p.2)) ≠ [] := by
    intro z
    have := congrArg List.length z
    rw [List.length_map, hz] at this
    simp at this
    omega
  obtain ⟨m1, m2⟩ := mxI_spec _ hne
  unfold gp
  obtain ⟨i, hi, e⟩ := hex
  have q1 := m2 m (List.mem_map.mpr ⟨(el a i, el b i), List.mem_of_getElem? (hget i hi), e⟩)
  obtain ⟨p, hp, e2⟩ := List.mem_map.mp m1
  obtain ⟨j, hj, e3⟩ := List.getElem_of_mem hp
  have hj' : j < n := by omega
  have e4 := hget j hj'
  rw [List.getElem?_eq_getElem hj, e3] at e4
  have e5 : p = (el a j, el b j) := Option.some.inj e4
  rw [e5] at e2
  have e6 : ab (el a j - el b j) = _ := e2
  have := hle j hj'
  omega
theorem gp_max {a b : List Int} (ha : a.length = n) (hb : b.length = n) (h1 : 1 ≤ n) : (∀ i, i < n → ab (el a i - el b i) ≤ gp a b) ∧ ∃ i, i < n ∧ ab (el a i - el b i) = gp a b := by
  have hz : (a.zip b).length = n := by rw [List.length_zip, ha, hb, Nat.min_self]
  have hget : ∀ i, i < n → (a.zip b)[i]? = some (el a i, el b i) := fun i hi => by
    rw [List.getElem?_zip_eq_some]
    exact ⟨el_at (by omega), el_at (by omega)⟩
  have hne : (a.zip b).map (fun p => ab (p.1 - p.2)) ≠ [] := by
    intro z
    have := congrArg List.length z
    rw [List.length_map, hz] at this
    simp at this
    omega
  obtain ⟨m1, m2⟩ := mxI_spec _ hne
  refine ⟨fun i hi => m2 _ (List.mem_map.mpr ⟨(el a i, el b i), List.mem_of_getElem? (hget i hi), rfl⟩), ?_⟩
  obtain ⟨p, hp, e2⟩ := List.mem_map.mp m1
  obtain ⟨j, hj, e3⟩ := List.getElem_of_mem hp
  have hj' : j < n := by omega
  have e4 := hget j hj'
  rw [List.getElem?_eq_getElem hj, e3] at e4
  have e5 : p = (el a j, el b j) := Option.some.inj e4
  rw [e5] at e2
  exact ⟨j, hj', e2⟩
theorem Lst.gap (h : Lst T n r) (hT : Dist T n) {k : Nat} (hk : k < n) : K38.gp r (ro T k) = el r k := by
  refine gp_is h.len (hT.sq.rlen hk) hT.n1 (fun i hi => ab_le.mpr ⟨?_, ?_⟩) ⟨k, hk, ?_⟩
  · show el r i - tl T k i ≤ el r k
    by_cases e : i = k
    · subst e; rw [hT.dg i hi]; omega
    · have := h.gp i k hi hk e
      rw [hT.sy k i hk hi]; omega
  · show -(el r i - tl T k i) ≤ el r k
    by_cases e : i = k
    · subst e
      have := h.nn i hi
      rw [hT.dg i hi]; omega
    · have := h.sm i k hi hk e
      rw [hT.sy k i hk hi]; omega
  · show ab (el r k - tl T k k) = el r k
    have := h.nn k hk
    rw [hT.dg k hk]
    unfold ab
    split <;> omega
end
end K38
set_option Elab.async false
set_option linter.all false
set_option maxRecDepth 100000
set_option maxHeartbeats 400000
/-! M38b: rows that are lowered; the wide table. -/
namespace K38
open PySem PySem.Spec PyProof.Rows L2 DL
structure Fi (T : List (List Int)) (n : Nat) (f : List Int) : Prop where
  len : f.length = n
  nn : ∀ i, i < n → 0 ≤ el f i
  sm : ∀ i j, i < n → j < n → i ≠ j → tl T i j ≤ el f i + el f j
def vl (T : List (List Int)) (n a : Nat) (f : List Int) : Int := mxI (0 :: ((List.range n).filter fun to => decide (to ≠ a)).map fun to => tl T a to - el f to)
section
variable {T : List (List Int)} {n : Nat} {f r : List Int}
theorem vl_spec (a : Nat) : 0 ≤ vl T n a f ∧ (∀ j, j < n → j ≠ a → tl T a j - el f j ≤ vl T n a f) ∧ (vl T n a f = 0 ∨ ∃ j, j < n ∧ j ≠ a ∧ vl T n a f = tl T a j - el f j) := by
  obtain ⟨h1, h2⟩ := mxI_spec (0 :: ((List.range n).filter fun to => decide (to ≠ a)).map fun to => tl T a to - el f to) (by simp)
  refine ⟨h2 0 List.mem_cons_self, fun j hj hja => h2 _ (List.mem_cons_of_mem _ (List.mem_map.mpr ⟨j, List.mem_filter.mpr ⟨List.mem_range.mpr hj, by simpa using hja⟩, rfl⟩)), ?_⟩
  rcases List.mem_cons.mp h1 with e | h
  · exact .inl e
  · obtain ⟨j, hj, e⟩ := List.mem_map.mp h
    obtain ⟨hj1, hj2⟩ := List.mem_filter.mp hj
    exact .inr ⟨j, List.mem_range.mp hj1, by simpa using hj2, e.symm⟩
theorem el_stp {a : Nat} (ha : a < f.length) (i : Nat) : el (stp T n a f) i = if i = a then vl T n a f else el f i := by
  show el (f.set a (vl T n a f)) i = _
  unfold el
  by_cases e : i = a
  · subst e
    rw [if_pos rfl, List.getElem?_set_self ha]; rfl
  · rw [if_neg e, List.getElem?_set_ne (fun z => e z.symm)]
theorem Fi.vle (h : Fi T n f) {a : Nat} (ha : a < n) : vl T n a f ≤ el f a := by
  obtain ⟨_, _, h3⟩ := vl_spec (T := T) (n := n) (f := f) a
  rcases h3 with e | ⟨j, hj, hja, e⟩
  · rw [e]; exact h.nn a ha
  · have := h.sm a j ha hj (fun z => hja z.symm)
    omega
theorem Fi.stp (h : Fi T n f) (hT : Dist T n) {a : Nat} (ha : a < n) : Fi T n (stp T n a f) := by
  obtain ⟨h1, h2, _⟩ := vl_spec (T := T) (n := n) (f := f) a
  have e := fun i => el_stp (T := T) (n := n) (f := f) (a := a) (by rw [h.len]; exact ha) i
  refine ⟨by rw [stp_len]; exact h.len, fun i hi => ?_, fun i j hi hj hij => ?_⟩
  · rw [e]
    split
    · exact h1
    · exact h.nn i hi
  · rw [e i, e j]
    by_cases hia : i = a
    · subst hia
      rw [if_pos rfl, if_neg (fun z => hij z.symm)]
      have := h2 j hj (fun z => hij z.symm)
      omega
    · rw [if_neg hia]
      by_cases hja : j = a
      · subst hja
        rw [if_pos rfl, hT.sy i j hi hj]
        have := h2 i hi hia
        omega
      · rw [if_neg hja]
        exact h.sm i j hi hj hij
theorem low_inv (hT : Dist T n) (h : Fi T n r) : ∀ k, k ≤ n → Fi T n (lowF T n k r) ∧ (∀ i, i < n → el (lowF T n k r) i ≤ el r i) ∧ ∀ i, i < k → el (lowF T n k r) i = 0 ∨ ∃ j, j < n ∧ j ≠ i ∧ el (lowF T n k r) i + el (lowF T n k r) j = tl T i j
  | 0, _ => ⟨h, fun i hi => Int.le_refl _, fun i hi => absurd hi (by omega)⟩
  | k + 1, hk => by
    obtain ⟨p1, p2, p3⟩ := low_inv hT h k (by omega)
    rw [lowF_s]
    generalize lowF T n k r = f at p1 p2 p3 ⊢
    have hkn : k < n := hk
    have e := fun i => el_stp (T := T) (n := n) (f := f) (a := k) (by rw [p1.len]; exact hkn) i
    have q1 := p1.stp hT hkn
    have le := p1.vle hkn
    refine ⟨q1, fun i hi => ?_, fun i hi => ?_⟩
    · rw [e i]
      split
      · rename_i z
        subst z
        have := p2 i hi
        omega
      · exact p2 i hi
    · by_cases hik : i = k
      · subst hik
        obtain ⟨_, _, h3⟩ := vl_spec (T := T) (n := n) (f := f) i
        rcases h3 with z | ⟨j, hj, hja, z⟩
        · left; rw [e i, if_pos rfl]; exact z
        · right
          refine ⟨j, hj, hja, ?_⟩
          rw [e i, e j, if_pos rfl, if_neg hja]
          omega
      · rcases p3 i (by omega) with z | ⟨j, hj, hja, z⟩
        · left; rw [e i, if_neg hik]; exact z
        · right
          refine ⟨j, hj, hja, ?_⟩
          by_cases hjk : j = k
          · subst hjk
            have := q1.sm i j (by omega) hj (fun z => hja z.symm)
            rw [e i, e j, if_neg hik, if_pos rfl] at this ⊢
            omega
          · rw [e i, e j, if_neg hik, if_neg hjk]; exact z
theorem low_lst (hT : Dist T n) (h : Fi T n r) : Lst T n (lowF T n n r) ∧ ∀ i, i < n → el (lowF T n n r) i ≤ el r i := by
  obtain ⟨p1, p2, p3⟩ := low_inv hT h n (Nat.le_refl n)
  refine ⟨⟨p1.len, p1.nn, fun i j hi hj hij => ?_, p1.sm, fun i hi => ?_⟩, p2⟩
  · rcases p3 i hi with z | ⟨m, hm, hmi, z⟩
    · have := p1.nn j hj
      have := hT.lo i j hi hj
      omega
    · have := p1.nn j hj
      by_cases hmj : m = j
      · subst hmj; omega
      · have q1 := p1.sm j m hj hm (fun z => hmj z.symm)
        have q2 := hT.tr i m j hi hm hj
        omega
  · rcases p3 i hi with z | ⟨m, hm, hmi, z⟩
    · exact ⟨i, hi, by rw [z, hT.dg i hi]; rfl⟩
    · exact ⟨m, hm, z⟩
theorem Lst.fi (h : Lst T n r) : Fi T n r := ⟨h.len, h.nn, h.sm⟩
theorem Lst.stp (h : Lst T n r) (hT : Dist T n) {a : Nat} (ha : a < n) : stp T n a r = r := by
  obtain ⟨h1, h2, _⟩ := vl_spec (T := T) (n := n) (f := r) a
  have le := h.fi.vle ha
  have ge : el r a ≤ vl T n a r := by
    obtain ⟨j, hj, e⟩ := h.ti a ha
    by_cases hja : j = a
    · subst hja
      rw [hT.dg j hj] at e
      have := h.nn j hj
      omega
    · have := h2 j hj hja
      omega
  refine row_ext (by rw [stp_len]) fun i _ => ?_
  rw [el_stp (by rw [h.len]; exact ha)]
  split
  · rename_i z
    subst z
    omega
  · rfl
theorem Lst.low (h : Lst T n r) (hT : Dist T n) : ∀ k, k ≤ n → lowF T n k r = r
  | 0, _ => rfl
  | k + 1, hk => by rw [lowF_s, h.low hT k (by omega), h.stp hT hk]
end
end K38
set_option Elab.async false
set_option linter.all false
set_option maxRecDepth 100000
set_option maxHeartbeats 400000
/-! M38c: the wide table, the table of gaps. -/
namespace K38
open PySem PySem.Spec PyProof.Rows L2 DL
section
variable {T : List (List Int)} {n : Nat} {r : List Int}
theorem el_app {a : List Int} {x : Int} (i : Nat) : el (a ++ [x]) i = if i < a.length then el a i else if i = a.length then x else 0 := by
  unfold el
  by_cases h : i < a.length
  · rw [if_pos h, List.getElem?_append_left h]
  · rw [if_neg h, List.getElem?_append_right (by omega)]
    by_cases e : i = a.length
    · subst e; rw [if_pos rfl, Nat.sub_self]; rfl
    · rw [if_neg e, List.getElem?_eq_none (by simp; omega)]; rfl
theorem wide_sq (h : Sq T n) (hl : r.length = n) : Sq (wide T r) (n + 1) := ⟨by simp [wide, h.len], fun q hq => by
  unfold wide at hq
  rcases List.mem_append.mp hq with hq | hq
  · obtain ⟨i, hi, rfl⟩ := List.mem_map.mp hq
    have hi := List.mem_range.mp hi
    rw [List.length_append, h.rlen (by rw [← h.len]; exact hi)]; rfl
  · rw [List.mem_singleton] at hq
    subst hq
    rw [List.length_append, hl]; rfl⟩
theorem wide_tl (h : Sq T n) (hl : r.length = n) {i j : Nat} (hi : i < n + 1) (hj : j < n + 1) : tl (wide T r) i j = if i < n then (if j < n then tl T i j else el r i) else (if j < n then el r j else 0) := by
  have hlen : ((List.range T.length).map fun i => ro T i ++ [el r i]).length = n := by rw [List.length_map, List.length_range, h.len]
  by_cases c : i < n
  · have e : ro (wide T r) i = ro T i ++ [el r i] := by
      show ((((List.range T.length).map fun i => ro T i ++ [el r i]) ++ [r ++ [0]])[i]?).getD [] = _
      rw [List.getElem?_append_left (by omega), List.getElem?_map, List.getElem?_range (by rw [h.len]; exact c)]; rfl
    unfold tl
    rw [e, el_app, h.rlen c, if_pos c]
    by_cases cj : j < n
    · rw [if_pos cj, if_pos cj]
    · rw [if_neg cj, if_neg cj, if_pos (by omega)]
  · have ei : i = n := by omega
    subst ei
    have e : ro (wide T r) i = r ++ [0] := by
      show ((((List.range T.length).map fun i => ro T i ++ [el r i]) ++ [r ++ [0]])[i]?).getD [] = _
      rw [List.getElem?_append_right (by omega), hlen, Nat.sub_self]; rfl
    unfold tl
    rw [e, el_app, hl, if_neg c]
    by_cases cj : j < i
    · rw [if_pos cj, if_pos cj]
    · rw [if_neg cj, if_neg cj, if_pos (by omega)]
theorem wide_dist (h : Dist T n) (hn : n < 8) (q : Lst T n r) (hp : ∀ i, i < n → 0 < el r i) (hu : ∀ i, i < n → el r i ≤ 1000) : Dist (wide T r) (n + 1) := by
  have e := fun i j (hi : i < n + 1) (hj : j < n + 1) => wide_tl (r := r) h.sq q.len hi hj
  refine { sq := wide_sq h.sq q.len, n1 := by omega, n8 := by omega, lo := fun i j hi hj => ?_, hi := fun i j hi hj => ?_, dg := fun i hi => ?_, sy := fun i j hi hj => ?_, ps := fun i j hi hj hij => ?_, tr := fun i j k hi hj hk => ?_ }
  · rw [e i j hi hj]
    by_cases ci : i < n <;> by_cases cj : j < n <;> simp only [ci, cj, if_true, if_false]
    · exact h.lo i j ci cj
    · exact q.nn i ci
    · exact q.nn j cj
    · exact Int.le_refl _
  · rw [e i j hi hj]
    by_cases ci : i < n <;> by_cases cj : j < n <;> simp only [ci, cj, if_true, if_false]
    · exact h.hi i j ci cj
    · exact hu i ci
    · exact hu j cj
    · omega
  · rw [e i i hi hi]
    by_cases ci : i < n <;> simp only [ci, if_true, if_false]
    exact h.dg i ci
  · rw [e i j hi hj, e j i hj hi]
    by_cases ci : i < n <;> by_cases cj : j < n <;> simp only [ci, cj, if_true, if_false]
    exact h.sy i j ci cj
  · rw [e i j hi hj]
    by_cases ci : i < n <;> by_cases cj : j < n <;> simp only [ci, cj, if_true, if_false]
    · exact h.ps i j ci cj hij
    · exact hp i ci
    · exact hp j cj
    · omega
  · rw [e i j hi hj, e i k hi hk, e k j hk hj]
    by_cases ci : i < n <;> by_cases cj : j < n <;> by_cases ck : k < n <;> simp only [ci, cj, ck, if_true, if_false]
    · exact h.tr i j k ci cj ck
    · by_cases c : i = j
      · subst c
        have := h.dg i ci
        have := q.nn i ci
        omega
      · exact q.sm i j ci cj c
    · by_cases c : i = k
      · subst c
        have := h.dg i ci
        omega
      · have := q.gp i k ci ck c
        omega
    · omega
    · by_cases c : j = k
      · subst c
        have := h.dg j cj
        omega
      · have := q.gp j k cj ck c
        rw [h.sy j k cj ck] at this
        omega
    · omega
    · have := q.nn k ck
      omega
    · omega
theorem wide_row (h : Dist T n) (q : Lst T n r) : (r ++ [0]).length = n + 1 ∧ (∀ x ∈ r ++ [0], 0 ≤ x) ∧ (∀ i j, i < n + 1 → j < n + 1 → i ≠ j → tl (wide T r) i j ≤ el (r ++ [0]) i + el (r ++ [0]) j) ∧
    (List.range (n + 1)).all (tg (wide T r) (n + 1) (r ++ [0])) = true := by
  have e := fun i j (hi : i < n + 1) (hj : j < n + 1) => wide_tl (r := r) h.sq q.len hi hj
  have ea : ∀ i, i < n + 1 → el (r ++ [0]) i = if i < n then el r i else 0 := fun i hi => by
    rw [el_app, q.len]
    by_cases c : i < n
    · rw [if_pos c, if_pos c]
    · rw [if_neg c, if_neg c, if_pos (by omega)]
  refine ⟨by rw [List.length_append, q.len]; rfl, fun x hx => ?_, fun i j hi hj hij => ?_, ?_⟩
  · rcases List.mem_append.mp hx with hx | hx
    · obtain ⟨i, hi, rfl⟩ := mem_el hx
      exact q.nn i (by rw [← q.len]; exact hi)
    · rw [List.mem_singleton] at hx
      omega
  · rw [e i j hi hj, ea i hi, ea j hj]
    by_cases ci : i < n <;> by_cases cj : j < n <;> simp only [ci, cj, if_true, if_false]
    · exact q.sm i j ci cj hij
    · omega
    · omega
    · omega
  · rw [List.all_eq_true]
    intro i hi
    have hi := List.mem_range.mp hi
    unfold K38.tg
    by_cases c : i < n
    · exact List.any_eq_true.mpr ⟨n, List.mem_range.mpr (by omega), by
        rw [decide_eq_true_eq, e i n hi (by omega), ea i hi, ea n (by omega)]
        simp [c]⟩
    · have hn1 := h.n1
      exact List.any_eq_true.mpr ⟨0, List.mem_range.mpr (by omega), by
        rw [decide_eq_true_eq, e i 0 hi (by omega), ea i hi, ea 0 (by omega)]
        have : 0 < n := by omega
        simp [c, this]⟩
end
/-! gaps -/
def gaps (few : List (List Int)) : List (List Int) := few.map fun a => few.map fun b => gp a b
theorem gaps_dist {n m : Nat} {few : List (List Int)} (hm : few.length = m) (h1 : 1 ≤ m) (h8 : m ≤ 8) (hn : 1 ≤ n) (hl : ∀ a ∈ few, a.length = n) (hb : ∀ a ∈ few, ∀ i, i < n → 0 ≤ el a i ∧ el a i ≤ 1000) (hd : few.Nodup) : Dist (gaps few) m := by
  have hro : ∀ i, i < m → ∃ a ∈ few, few[i]? = some a ∧ ro (gaps few) i = few.map fun b => gp a b := fun i hi => by
    have hi' : i < few.length := by omega
    refine ⟨few[i], List.getElem_mem _, List.getElem?_eq_getElem hi', ?_⟩
    unfold ro gaps
    rw [List.getElem?_map, List.getElem?_eq_getElem hi']; rfl
  have htl : ∀ i j, i < m → j < m → ∃ a ∈ few, ∃ b ∈ few, few[i]? = some a ∧ few[j]? = some b ∧ tl (gaps few) i j = gp a b := fun i j hi hj => by
    obtain ⟨a, ha, e1, e2⟩ := hro i hi
    have hj' : j < few.length := by omega
    refine ⟨a, ha, few[j], List.getElem_mem _, e1, List.getElem?_eq_getElem hj', ?_⟩
    unfold tl
    rw [e2]
    unfold el
    rw [List.getElem?_map, List.getElem?_eq_getElem hj']; rfl
  have mx := fun (a b : List Int) (ha : a ∈ few) (hb' : b ∈ few) => gp_max (a := a) (b := b) (hl a ha) (hl b hb') hn
  have abn : ∀ x : Int, 0 ≤ ab x := fun x => by unfold ab; split <;> omega
  refine { sq := ⟨by simp [gaps, hm], fun r hr => ?_⟩, n1 := h1, n8 := h8, lo := fun i j hi hj => ?_, hi := fun i j hi hj => ?_, dg := fun i hi => ?_, sy := fun i j hi hj => ?_, ps := fun i j hi hj hij => ?_, tr := fun i j k hi hj hk => ?_ }
  · obtain ⟨a, _, rfl⟩ := List.mem_map.mp hr
    rw [List.length_map, hm]
  · obtain ⟨a, ha, b, hb', _, _, e⟩ := htl i j hi hj
    rw [e]
    obtain ⟨_, k, hk, q⟩ := mx a b ha hb'
    rw [← q]; exact abn _
  · obtain ⟨a, ha, b, hb', _, _, e⟩ := htl i j hi hj
    rw [e]
    obtain ⟨_, k, hk, q⟩ := mx a b ha hb'
    rw [← q]
    have := hb a ha k hk
    have := hb b hb' k hk
    exact ab_le.mpr ⟨by omega, by omega⟩
  · obtain ⟨a, ha, b, hb', e1, e2, e⟩ := htl i i hi hi
    rw [e1] at e2
    cases e2
    rw [e]
    obtain ⟨_, k, hk, q⟩ := mx a a ha ha
    rw [← q, Int.sub_self]; rfl
  · obtain ⟨a, ha, b, hb', e1, e2, e⟩ := htl i j hi hj
    obtain ⟨b2, hb2, a2, ha2, e3, e4, e5⟩ := htl j i hj hi
    rw [e2] at e3
    cases e3
    rw [e1] at e4
    cases e4
    rw [e, e5]
    obtain ⟨m1, k, hk, q⟩ := mx a b ha hb'
    obtain ⟨m2, k2, hk2, q2⟩ := mx b a hb' ha
    have sy : ∀ k, ab (el a k - el b k) = ab (el b k - el a k) := fun k => by unfold ab; split <;> split <;> omega
    have l1 := m1 k2 hk2
    have l2 := m2 k hk
    rw [sy] at q l1
    omega
  · obtain ⟨a, ha, b, hb', e1, e2, e⟩ := htl i j hi hj
    rw [e]
    obtain ⟨m1, k, hk, q⟩ := mx a b ha hb'
    have hne : a ≠ b := fun z => by
      subst z
      have hi' : i < few.length := by omega
      have hj' : j < few.length := by omega
      rw [List.getElem?_eq_getElem hi'] at e1
      rw [List.getElem?_eq_getElem hj'] at e2
      have e3 : few[i] = few[j] := (Option.some.inj e1).trans (Option.some.inj e2).symm
      have hp := List.pairwise_iff_getElem.mp hd
      rcases Nat.lt_or_gt_of_ne hij with g | g
      · exact hp i j hi' hj' g e3
      · exact hp j i hj' hi' g e3.symm
    have h0 : gp a b ≠ 0 := fun z => hne (row_ext (by rw [hl a ha, hl b hb']) fun k hk => by
      have l := m1 k (by rw [← hl a ha]; exact hk)
      rw [z] at l
      obtain ⟨l1, l2⟩ := ab_le.mp l
      omega)
    have := abn (el a k - el b k)
    omega
  · obtain ⟨a, ha, b, hb', e1, e2, e⟩ := htl i j hi hj
    obtain ⟨a2, ha2, c, hc, e3, e4, e5⟩ := htl i k hi hk
    obtain ⟨c2, hc2, b2, hb2, e6, e7, e8⟩ := htl k j hk hj
    rw [e1] at e3
    cases e3
    rw [e4] at e6
    cases e6
    rw [e2] at e7
    cases e7
    rw [e, e5, e8]
    obtain ⟨_, x, hx, q⟩ := mx a b ha hb'
    have l1 := (mx a c ha hc).1 x hx
    have l2 := (mx c b hc hb').1 x hx
    rw [← q]
    obtain ⟨u1, u2⟩ := ab_le.mp l1
    obtain ⟨v1, v2⟩ := ab_le.mp l2
    exact ab_le.mpr ⟨by omega, by omega⟩
end K38
set_option Elab.async false
set_option linter.all false
set_option maxRecDepth 100000
set_option maxHeartbeats 400000
/-! K38l: the law over data. -/
namespace K38
open PySem PySem.Spec PyProof.Rows L2 DL
theorem eqv_wI (a b : List Int) : (wI a).eqv (wI b) = decide (a = b) := by
  unfold wI
  rw [eqv_tup, eqvAll_ints]
theorem in_tB (a : List Int) (L : List (List Int)) : dInD (wI a) (tB L) = some (.bl (decide (a ∈ L))) := by
  have h1 : (L.map wI).all (dOk 8) = true := by
    rw [List.all_map]
    exact List.all_eq_true.mpr fun x _ => dOk_ints x
  show (if (dOk 8 (wI a) && (L.map wI).all (dOk 8)) = true then some (D.bl ((L.map wI).any fun y => y.eqv (wI a))) else none) = _
  rw [h1, show dOk 8 (wI a) = true from dOk_ints a, if_pos (show (true && true) = true from rfl), List.any_map]
  have e : (fun y : D => y.eqv (wI a)) ∘ wI = fun x => decide (x = a) := by
    funext x
    exact eqv_wI x a
  rw [e]
  congr 2
  rw [Bool.eq_iff_iff]
  simp
theorem notIn_tB (a : List Int) (L : List (List Int)) : dNotInD (wI a) (tB L) = some (.bl (!decide (a ∈ L))) := by
  have h1 : (L.map wI).all (dOk 8) = true := by
    rw [List.all_map]
    exact List.all_eq_true.mpr fun x _ => dOk_ints x
  show (if (dOk 8 (wI a) && (L.map wI).all (dOk 8)) = true then some (D.bl (!(L.map wI).any fun y => y.eqv (wI a))) else none) = _
  rw [h1, show dOk 8 (wI a) = true from dOk_ints a, if_pos (show (true && true) = true from rfl), List.any_map]
  have e : (fun y : D => y.eqv (wI a)) ∘ wI = fun x => decide (x = a) := by
    funext x
    exact eqv_wI x a
  rw [e]
  congr 3
  rw [Bool.eq_iff_iff]
  simp
theorem rows_bound {T : List (List Int)} {n : Nat} (h : Dist T n) (hn : n ≤ 4) (h4 : ∀ i j, i < n → j < n → tl T i j ≤ 4) : (∀ k, k < n → 0 ≤ mxI (ro T k) ∧ mxI (ro T k) ≤ 100) ∧ ∀ k, k ≤ n → (R T k).length ≤ 1000 := by
  have hm : ∀ k, k < n → 0 ≤ mxI (ro T k) ∧ mxI (ro T k) ≤ 4 := fun k hk => by
    obtain ⟨j, hj, e⟩ := mx_in h.sq hk
    exact ⟨mx_nn h hk, by rw [e]; exact h4 k j hk hj⟩
  refine ⟨fun k hk => ⟨(hm k hk).1, by have := (hm k hk).2; omega⟩, fun k hk => ?_⟩
  have h1 := len_R T (n := n) (b := 5) (fun k hk => by have := hm k hk; omega) k hk
  have h2 : (5 : Nat) ^ k ≤ 5 ^ 4 := Nat.pow_le_pow_right (by omega) (by omega)
  omega
section
variable {T : List (List Int)} {n : Nat} {r : List Int}
theorem Lst.pos (q : Lst T n r) (h : 0 < mnI r) : ∀ i, i < n → 0 < el r i := fun i hi => by
  have hl := q.len
  have := (mnI_spec r (by intro z; rw [z] at hl; simp at hl; omega)).2 _ (el_mem (show i < r.length by omega))
  omega
theorem law2 (hT : Dist T n) (q : Lst T n r) {o : List Int} (ho : Lst T n o) (s : Src) : c_law_2 ([.no, .rd .src, .rd (.int (n : Nat)), .rd (tB T), .rd (tB (LR T n)), .rd (wI r), .no, .no, .no, .no, .no, .no, .no, .no, .no, .no, .no, .no].set 13 (.rd (wI o)) : Ev) s = some (.lst ((List.range n).map fun k => .bl (decide (el o k ≤ el r k))), s) := by
  have hn8 := hT.n8
  have e5 : rg1 [.int (n : Nat)] = some (rgs n) := rg1_n (by omega)
  unfold c_law_2
  refine lc_eq (s1 := s) (ds := rgs n) (by simp [e5]) (by rw [rgs_len]; omega) (cLp_rgs _ n fun k hk => ⟨_, rfl, rfl, ?_⟩)
  have a1 := wI_at (r := o) (show k < o.length by rw [ho.len]; exact hk)
  have a2 := wI_at (r := r) (show k < r.length by rw [q.len]; exact hk)
  simp [a1, a2, -ix_int]
theorem law3 (hT : Dist T n) (q : Lst T n r) (hlen : (LR T n).length ≤ 1000) (s : Src) : c_law_3 [.no, .rd .src, .rd (.int (n : Nat)), .rd (tB T), .rd (tB (LR T n)), .rd (wI r), .no, .no, .no, .no, .no, .no, .no, .no, .no, .no, .no, .no] s = some (.lst ((LR T n).map fun _ => .bl false), s) := by
  unfold c_law_3
  refine lc_eq (s1 := s) (ds := (LR T n).map wI) (by simp) (by rw [List.length_map]; omega) (cLp_map (α := List Int) wI _ (LR T n) fun o ho => ⟨_, rfl, rfl, ?_⟩)
  have ho := (mem_LR hT).mp ho
  have l2 := law2 hT q ho s
  have hall : bAll [.lst ((List.range n).map fun k => .bl (decide (el o k ≤ el r k)))] = some (.bl ((List.range n).all fun k => decide (el o k ≤ el r k))) := by
    rw [all_lst, boolL_map, Option.map_some, List.all_map]; rfl
  generalize (List.range n).map (fun k => D.bl (decide (el o k ≤ el r k))) = LL at l2 hall
  show (eAnd (e2 dNe (eVar 13) (eVar 5)) (eCall bAll (eAs c_law_2 eAs0))) ([.no, .rd .src, .rd (.int (n : Nat)), .rd (tB T), .rd (tB (LR T n)), .rd (wI r), .no, .no, .no, .no, .no, .no, .no, .no, .no, .no, .no, .no].set 13 (.rd (wI o)) : Ev) s = _
  by_cases e : o = r
  · simp [ne_wI, e]
  · have hno : ((List.range n).all fun k => decide (el o k ≤ el r k)) = false := by
      cases hc : (List.range n).all fun k => decide (el o k ≤ el r k) with
      | false => rfl
      | true =>
        refine absurd (q.least hT ho fun i hi => ?_) e
        have := List.all_eq_true.mp hc i (List.mem_range.mpr hi)
        simpa using this
    rw [hno] at hall
    rw [eAnd_ap, e2_ap]
    show Option.bind (Option.bind (some (wI o, s)) fun p => Option.bind (some (wI r, p.2)) fun q => M.of (dNe p.1 q.1) q.2) _ = _
    rw [Option.bind_some, Option.bind_some, ne_wI, decide_eq_false e]
    show (eCall bAll (eAs c_law_2 eAs0)) ([.no, .rd .src, .rd (.int (n : Nat)), .rd (tB T), .rd (tB (LR T n)), .rd (wI r), .no, .no, .no, .no, .no, .no, .no, .no, .no, .no, .no, .no].set 13 (.rd (wI o)) : Ev) s = _
    rw [eCall_ap, eAs_ap, l2]
    simp [hall, -all_lst]
theorem law4 (hT : Dist T n) (q : Lst T n r) (s : Src) : c_law_4 [.no, .rd .src, .rd (.int (n : Nat)), .rd (tB T), .rd (tB (LR T n)), .rd (wI r), .no, .no, .no, .no, .no, .no, .no, .no, .no, .no, .no, .no] s = some (.lst ((List.range n).map fun _ => .bl false), s) := by
  have hn1 := hT.n1
  have hn8 := hT.n8
  have e5 : rg1 [.int (n : Nat)] = some (rgs n) := rg1_n (by omega)
  unfold c_law_4
  refine lc_eq (s1 := s) (ds := rgs n) (by simp [e5]) (by rw [rgs_len]; omega) (cLp_rgs _ n fun k hk => ⟨_, rfl, rfl, ?_⟩)
  have a1 := tB_at hT.sq hk
  have a2 := wI_at (r := r) (show k < r.length by rw [q.len]; exact hk)
  have g := gapd q.len (hT.sq.rlen hk) hn1 (by omega) s
  rw [q.gap hT hk] at g
  simp [a1, a2, g, -ix_int]
theorem law5 (hT : Dist T n) (q : Lst T n r) (hu : ∀ i, i < n → el r i ≤ 1000) (hlen : (LR T n).length ≤ 1000) (s : Src) : b_law_5 [.no, .rd .src, .rd (.int (n : Nat)), .rd (tB T), .rd (tB (LR T n)), .rd (wI r), .no, .no, .no, .no, .no, .no, .no, .no, .no, .no, .no, .no] s = some (.nx [.no, .rd .src, .rd (.int (n : Nat)), .rd (tB T), .rd (tB (LR T n)), .rd (wI r), .no, .no, .no, .no, .no, .no, .no, .no, .no, .no, .no, .no], s) := by
  have hn1 := hT.n1
  have mr := min_wI (r := r) (by
    intro z
    have := q.len
    rw [z] at this
    simp at this
    omega)
  unfold b_law_5
  rw [seq_nx (δ1 := [.no, .rd .src, .rd (.int (n : Nat)), .rd (tB T), .rd (tB (LR T n)), .rd (wI r), .no, .no, .no, .no, .no, .no, .no, .no, .no, .no, .no, .no]) (s1 := s) (by
    by_cases hp : 0 < mnI r
    · have m := mpap hT q.len (fun x hx => by
        obtain ⟨i, hi, rfl⟩ := mem_el hx
        have hi : i < n := by rw [← q.len]; exact hi
        exact ⟨q.pos hp i hi, hu i hi⟩) q.sm q.gp s
      simp [mr, hp, m, ne_s1_self okFits]
    · simp [mr, hp])]
  rw [seq_nx (δ1 := [.no, .rd .src, .rd (.int (n : Nat)), .rd (tB T), .rd (tB (LR T n)), .rd (wI r), .no, .no, .no, .no, .no, .no, .no, .no, .no, .no, .no, .no]) (s1 := s) (by simp [law3 hT q hlen, any_no, -any_lst])]
  simp [law4 hT q, any_no, -any_lst]
end
theorem ne_tB_self (T : List (List Int)) : dNe (tB T) (tB T) = some (.bl false) := by
  have h1 : dOk 8 (tB T) = true := by
    show (T.map wI).all (dOk 7) = true
    rw [List.all_map]
    exact List.all_eq_true.mpr fun x _ => dOk_ints x
  have h2 : ∀ L : List (List Int), PyData.eqvAll (pys (L.map wI)) (pys (L.map wI)) = true := by
    intro L
    induction L with
    | nil => rfl
    | cons a L ih =>
      rw [List.map_cons, pys, PyData.eqvAll, ih, Bool.and_true]
      have := eqv_wI a a
      unfold D.eqv at this
      rw [this]; simp
  have h3 : (tB T).eqv (tB T) = true := by
    show (D.tup (T.map wI)).eqv (.tup (T.map wI)) = true
    rw [eqv_tup]; exact h2 T
  unfold dNe
  rw [h1, h3]; rfl
theorem sl7 (L : List (List Int)) : dSl (tB L) none (some 7) = some (tB (L.take 7)) := by
  have h : DL.cutD (L.map wI) none (some 7) = (L.take 7).map wI := by
    unfold DL.cutD
    show (List.drop 0 (L.map wI)).take (min (7 : Int).toNat (L.map wI).length - 0) = _
    rw [List.drop_zero, Nat.sub_zero, List.map_take]
    by_cases c : 7 ≤ (L.map wI).length
    · rw [show min (7 : Int).toNat (L.map wI).length = 7 by show min 7 _ = 7; omega]
    · rw [List.take_of_length_le (by show _ ≤ min 7 _; omega), List.take_of_length_le (by omega)]
  show some (D.tup (DL.cutD (L.map wI) none (some 7))) = _
  rw [h]; rfl
def V (n : Nat) (T : List (List Int)) (s5 s6 s7 s8 s9 s10 s11 : Sl) : Ev := [.no, .rd .src, .rd (.int (n : Nat)), .rd (tB T), .rd (tB (LR T n)), s5, s6, s7, s8, s9, s10, s11, .no, .no, .no, .no, .no, .no]
section
variable {T : List (List Int)} {n : Nat} {s5 s6 s7 s8 s9 s10 s11 : Sl}
theorem law1 (hT : Dist T n) (s : Src) : c_law_1 (V n T s5 s6 s7 s8 s9 s10 s11) s = some (.lst (T.map fun _ => .bl true), s) := by
  have hn8 := hT.n8
  unfold c_law_1 V
  refine lc_eq (s1 := s) (ds := T.map wI) (by simp) (by rw [List.length_map, hT.sq.len]; omega) (cLp_map (α := List Int) wI _ T fun r hr => ⟨_, rfl, rfl, ?_⟩)
  obtain ⟨i, hi, e⟩ := List.getElem_of_mem hr
  have hi' : i < n := by rw [← hT.sq.len]; exact hi
  have er : ro T i = r := by unfold ro; rw [List.getElem?_eq_getElem hi, e]; rfl
  have hm : r ∈ LR T n := (mem_LR hT).mpr (by rw [← er]; exact line hT hi')
  simp [in_tB, hm]
theorem law7 {few : List (List Int)} (hn1 : 1 ≤ n) (hn8 : n ≤ 8) (hf : few.length ≤ 8) (hl : ∀ a ∈ few, a.length = n) (s : Src) : c_law_7 (V n T s5 (.rd (tB few)) s7 s8 s9 s10 s11) s = some (.lst ((gaps few).map wI), s) := by
  unfold c_law_7 V gaps
  rw [List.map_map]
  refine lc_eq (s1 := s) (ds := few.map wI) (by simp) (by rw [List.length_map]; omega) (cLp_map (α := List Int) wI (fun a => wI (few.map fun b => gp a b)) few fun a ha => ⟨_, rfl, rfl, ?_⟩)
  have c6 : c_law_6 ([.no, .rd .src, .rd (.int (n : Nat)), .rd (tB T), .rd (tB (LR T n)), s5, .rd (tB few), s7, s8, s9, s10, s11, .no, .no, .no, .rd (wI a), .no, .no] : Ev) s = some (.lst ((few.map fun b => gp a b).map D.int), s) := by
    unfold c_law_6
    rw [List.map_map]
    refine lc_eq (s1 := s) (ds := few.map wI) (by simp) (by rw [List.length_map]; omega) (cLp_map (α := List Int) wI (fun b => .int (gp a b)) few fun b hb => ⟨_, rfl, rfl, ?_⟩)
    have g := gapd (hl a ha) (hl b hb) hn1 (by omega) s
    simp [g]
  show (eCall bTup (eAs c_law_6 eAs0)) ([.no, .rd .src, .rd (.int (n : Nat)), .rd (tB T), .rd (tB (LR T n)), s5, .rd (tB few), s7, s8, s9, s10, s11, .no, .no, .no, .rd (wI a), .no, .no] : Ev) s = _
  rw [eCall_ap, eAs_ap, c6]
  rfl
theorem law9 (hT : Dist T n) (s : Src) : c_law_9 (V n T s5 s6 s7 s8 s9 s10 s11) s = some (.lst (T.map wI), s) := by
  have hn1 := hT.n1
  have hn8 := hT.n8
  unfold c_law_9 V
  refine lc_eq (s1 := s) (ds := T.map wI) (by simp) (by rw [List.length_map, hT.sq.len]; omega) (cLp_map (α := List Int) wI wI T fun a ha => ⟨_, rfl, rfl, ?_⟩)
  obtain ⟨i, hi, e⟩ := List.getElem_of_mem ha
  have hi' : i < n := by rw [← hT.sq.len]; exact hi
  have er : ro T i = a := by unfold ro; rw [List.getElem?_eq_getElem hi, e]; rfl
  have c8 : c_law_8 ([.no, .rd .src, .rd (.int (n : Nat)), .rd (tB T), .rd (tB (LR T n)), s5, s6, s7, s8, s9, s10, s11, .no, .no, .no, .rd (wI a), .no, .no] : Ev) s = some (.lst ((T.map fun b => gp a b).map D.int), s) := by
    unfold c_law_8
    rw [List.map_map]
    refine lc_eq (s1 := s) (ds := T.map wI) (by simp) (by rw [List.length_map, hT.sq.len]; omega) (cLp_map (α := List Int) wI (fun b => .int (gp a b)) T fun b hb => ⟨_, rfl, rfl, ?_⟩)
    have g := gapd (hT.sq.row a ha) (hT.sq.row b hb) hn1 (by omega) s
    simp [g]
  have hg : (T.map fun b => gp a b) = a := by
    refine row_ext (by rw [List.length_map, hT.sq.len, hT.sq.row a ha]) fun k hk => ?_
    rw [List.length_map, hT.sq.len] at hk
    have q := (line hT hi').gap hT hk
    rw [er] at q
    rw [← q]
    unfold el
    rw [List.getElem?_map, hT.sq.at_ hk]; rfl
  rw [hg] at c8
  show (eCall bTup (eAs c_law_8 eAs0)) ([.no, .rd .src, .rd (.int (n : Nat)), .rd (tB T), .rd (tB (LR T n)), s5, s6, s7, s8, s9, s10, s11, .no, .no, .no, .rd (wI a), .no, .no] : Ev) s = _
  rw [eCall_ap, eAs_ap, c8]
  rfl
end
section
variable {T : List (List Int)} {n : Nat} {s5 s6 s7 s8 s9 s10 s11 : Sl}
theorem law10 (hT : Dist T n) : ∀ (l : List Nat) (s : Src), (∀ k ∈ l, k < n) → ∃ (z : List Int) (s' : Src), cLp [14] (gN 14) bYes (e2 dAdd (eCall bMaxS (eAs (e2 dIx (eVar 3) (eVar 14)) eAs0)) (eFn (fun ds => if ds.length = 2 then F__law_take ds else M.no) (eAs (eVar 1) (eAs (eC (.int 3)) eAs0)))) (V n T s5 s6 s7 s8 s9 s10 s11) (l.map fun k => .int (k : Nat)) s = some (z.map D.int, s') ∧
    z.length = l.length ∧ ∀ i k, l[i]? = some k → mxI (ro T k) ≤ el z i ∧ el z i ≤ mxI (ro T k) + 2
  | [], s, _ => ⟨[], s, rfl, rfl, fun i k h => by simp at h⟩
  | k :: l, s, h => by
    have hk := h k List.mem_cons_self
    obtain ⟨z, s', e, hz, hb⟩ := law10 hT l (take s 3).2 fun j hj => h j (List.mem_cons_of_mem _ hj)
    have lo := take_lo s (m := 3) (by omega)
    have hi := take_hi s (m := 3) (by omega)
    have dr := draw_eq (s := s) (m := 3) ⟨by omega, by omega⟩
    have a1 := tB_at hT.sq hk
    have mr := max_row hT hk
    refine ⟨(mxI (ro T k) + (take s 3).1) :: z, s', ?_, by simp [hz], fun i j hij => ?_⟩
    · rw [List.map_cons, cLp]
      have c1 : (e2 dAdd (eCall bMaxS (eAs (e2 dIx (eVar 3) (eVar 14)) eAs0)) (eFn (fun ds => if ds.length = 2 then F__law_take ds else M.no) (eAs (eVar 1) (eAs (eC (.int 3)) eAs0)))) (((V n T s5 s6 s7 s8 s9 s10 s11).set 14 .no).set 14 (.rd (.int (k : Nat)))) s = some (.int (mxI (ro T k) + (take s 3).1), (take s 3).2) := by
        simp [V, a1, mr, dr, -ix_int]
      simp only [bd_ap, gN_ap, wipe1, wipe0, of_some, Option.bind_some, bYes_ap, if_true, c1, e, ret_ap, List.map_cons]
    · cases i with
      | zero =>
        have : k = j := by simpa using hij
        subst this
        show _ ≤ mxI (ro T k) + (take s 3).1 ∧ mxI (ro T k) + (take s 3).1 ≤ _
        omega
      | succ i =>
        have := hb i j (by simpa using hij)
        exact this
theorem row_fi (hT : Dist T n) {z : List Int} (hl : z.length = n) (h : ∀ k, k < n → mxI (ro T k) ≤ el z k) : Fi T n z := by
  refine ⟨hl, fun i hi => ?_, fun i j hi hj hij => ?_⟩
  · have := h i hi
    have := mx_nn hT hi
    omega
  · have := h i hi
    have := h j hj
    have := mx_le hT.sq hi hj
    have := mx_nn hT hj
    omega
theorem law12 {low row : List Int} (hn : n ≤ 30) (h1 : low.length = n) (h2 : row.length = n) (hle : ∀ i, i < n → el low i ≤ el row i) (s : Src) : c_law_12 (V n T (.rd (wI row)) s6 s7 s8 (.rd (wI low)) s10 s11) s = some (.lst ((List.range n).map fun _ => .bl false), s) := by
  have e5 : rg1 [.int (n : Nat)] = some (rgs n) := rg1_n (by omega)
  unfold c_law_12 V
  refine lc_eq (s1 := s) (ds := rgs n) (by simp [e5]) (by rw [rgs_len]; omega) (cLp_rgs _ n fun k hk => ⟨_, rfl, rfl, ?_⟩)
  have a1 := wI_at (r := low) (show k < low.length by omega)
  have a2 := wI_at (r := row) (show k < row.length by omega)
  have := hle k hk
  simp [a1, a2, -ix_int, this]
end
end K38
set_option Elab.async false
set_option linter.all false
set_option maxRecDepth 100000
set_option maxHeartbeats 1000000
/-! K38n: the law over data is true. -/
namespace K38
open PySem PySem.Spec PyProof.Rows L2 DL
theorem law_true : ∀ st : Src, ∃ st', g_law (.no :: .rd .src :: List.replicate 16 .no) st = some (.rt (.bl true), st') := by
  intro st
  have lo := take_lo st (m := 4) (by omega)
  have hi := take_hi st (m := 4) (by omega)
  have dr := draw_eq (s := st) (m := 4) ⟨by omega, by omega⟩
  obtain ⟨n, hn⟩ : ∃ n : Nat, 1 + (take st 4).1 = n := ⟨(1 + (take st 4).1).toNat, (Int.toNat_of_nonneg (by omega)).symm⟩
  have hn1 : 1 ≤ n := by omega
  have hn4 : n ≤ 4 := by omega
  obtain ⟨x, hx, s2, hp⟩ := pick (m := .lst [.int 2, .int 4]) (xs := [.int 2, .int 4]) rfl rfl (by decide) (by decide) (take st 4).2
  obtain ⟨top, ⟨ht1, ht4⟩, rfl⟩ : ∃ top : Int, (1 ≤ top ∧ top ≤ 4) ∧ x = .int top := by
    simp at hx
    rcases hx with rfl | rfl
    · exact ⟨2, by omega, rfl⟩
    · exact ⟨4, by omega, rfl⟩
  obtain ⟨Q0, s3, hw0, ht⟩ := tab (n := n) (top := top) (by omega) ht1 (by omega) s2
  obtain ⟨T, hw, hs⟩ := short (by omega) hw0 s3
  have hT : Dist T n := hw.dist hn1 (by omega) (by omega)
  have h4 : ∀ i j, i < n → j < n → tl T i j ≤ 4 := fun i j hi hj => Int.le_trans (hw.hi i j hi hj) ht4
  obtain ⟨b1, b2⟩ := rows_bound hT hn4 h4
  have hLR : (LR T n).length ≤ 1000 := Nat.le_trans (List.length_filter_le _ _) (b2 n (Nat.le_refl n))
  have hup : ∀ {r : List Int}, Lst T n r → ∀ i, i < n → el r i ≤ 100 := fun q i hi => Int.le_trans (q.up hT.sq hi) (b1 i hi).2
  obtain ⟨δ1, e1, t, rfl⟩ := fLp_keep wI (tg := gN 5) (body := b_law_5) (s := s3) (fun δ => ∃ t : Sl, δ = V n T t .no .no .no .no .no .no) (LR T n) (V n T .no .no .no .no .no .no .no) ⟨_, rfl⟩ (fun r hr δ ⟨t, e⟩ => by
    subst e
    have q := (mem_LR hT).mp hr
    exact ⟨lf_wI r, _, _, rfl, law5 hT q (fun i hi => by have := hup q i hi; omega) hLR s3, _, rfl⟩)
  show ∃ st', g_law [.no, .rd .src, .no, .no, .no, .no, .no, .no, .no, .no, .no, .no, .no, .no, .no, .no, .no, .no] st = _
  unfold g_law
  rw [seq_nx (δ1 := [.no, .rd .src, .rd (.int (n : Nat)), .no, .no, .no, .no, .no, .no, .no, .no, .no, .no, .no, .no, .no, .no, .no]) (s1 := (take st 4).2) (by simp [dr, hn])]
  rw [seq_nx (δ1 := [.no, .rd .src, .rd (.int (n : Nat)), .rd (tB T), .no, .no, .no, .no, .no, .no, .no, .no, .no, .no, .no, .no, .no, .no]) (s1 := s3) (by simp [hp, ht, hs])]
  rw [seq_nx (δ1 := V n T .no .no .no .no .no .no .no) (s1 := s3) (by simp [V, lrows hT b1 b2])]
  rw [seq_nx (δ1 := V n T .no .no .no .no .no .no .no) (s1 := s3) (by
    rw [sIf_ap, bNot_ap, bTr_ap, eCall_ap, eAs_ap, law1 hT]
    simp [all_yes, -all_lst])]
  rw [seq_nx (δ1 := V n T t .no .no .no .no .no .no) (s1 := s3) (by
    have h5 : iSeqT (eVar 4) (V n T .no .no .no .no .no .no .no) s3 = some ((LR T n).map wI, s3) := by simp [V]
    rw [sFor_ap, h5]
    exact e1)]
  have hfew : ∀ a ∈ (LR T n).take 7, Lst T n a := fun a ha => (mem_LR hT).mp (List.mem_of_mem_take ha)
  rw [seq_nx (δ1 := V n T t (.rd (tB ((LR T n).take 7))) .no .no .no .no .no) (s1 := s3) (by
    have h6 : eSl (eVar 4) fNo (fSo (eC (.int 7))) (V n T t .no .no .no .no .no .no) s3 = some (tB ((LR T n).take 7), s3) := by simp [eSl, fNo, fSo, V, sl7]
    rw [sSet_ap, h6]
    simp [V])]
  have hfl : ((LR T n).take 7).length ≤ 7 := by rw [List.length_take]; omega
  have hf1 : 1 ≤ ((LR T n).take 7).length := by
    have : ro T 0 ∈ LR T n := (mem_LR hT).mpr (line hT (by omega))
    have := List.length_pos_of_mem this
    rw [List.length_take]; omega
  have hG : Dist (gaps ((LR T n).take 7)) ((LR T n).take 7).length := gaps_dist rfl hf1 (by omega) hn1 (fun a ha => (hfew a ha).len) (fun a ha i hi => ⟨(hfew a ha).nn i hi, by have := hup (hfew a ha) i hi; omega⟩) (List.Nodup.sublist (List.take_sublist 7 _) ((nodup_R T n).filter _))
  rw [seq_nx (δ1 := V n T t (.rd (tB ((LR T n).take 7))) (.rd (tB (gaps ((LR T n).take 7)))) .no .no .no .no) (s1 := s3) (by
    have h7 := law7 (T := T) (s5 := t) (s7 := .no) (s8 := .no) (s9 := .no) (s10 := .no) (s11 := .no) hn1 (show n ≤ 8 by omega) (show ((LR T n).take 7).length ≤ 8 by omega) (fun a ha => (hfew a ha).len) s3
    rw [sSet_ap, eCall_ap, eAs_ap, h7]
    have et : D.tup ((gaps ((LR T n).take 7)).map wI) = tB (gaps ((LR T n).take 7)) := rfl
    simp [V, et])]
  rw [seq_nx (δ1 := V n T t (.rd (tB ((LR T n).take 7))) (.rd (tB (gaps ((LR T n).take 7)))) .no .no .no .no) (s1 := s3) (by
    simp [V, dpap hG, ne_s1_self okDist])]
  rw [seq_nx (δ1 := V n T t (.rd (tB ((LR T n).take 7))) (.rd (tB (gaps ((LR T n).take 7)))) (.rd (tB T)) .no .no .no) (s1 := s3) (by
    have h9 := law9 (s5 := t) (s6 := .rd (tB ((LR T n).take 7))) (s7 := .rd (tB (gaps ((LR T n).take 7)))) (s8 := .no) (s9 := .no) (s10 := .no) (s11 := .no) hT s3
    rw [sSet_ap, eCall_ap, eAs_ap, h9]
    have et : D.tup (T.map wI) = tB T := rfl
    simp [V, et])]
  rw [seq_nx (δ1 := V n T t (.rd (tB ((LR T n).take 7))) (.rd (tB (gaps ((LR T n).take 7)))) (.rd (tB T)) .no .no .no) (s1 := s3) (by
    simp [V, ne_tB_self])]
  obtain ⟨z, s4, ez, hzl, hzb⟩ := law10 (s5 := t) (s6 := .rd (tB ((LR T n).take 7))) (s7 := .rd (tB (gaps ((LR T n).take 7)))) (s8 := .rd (tB T)) (s9 := .no) (s10 := .no) (s11 := .no) hT (List.range n) s3 (fun k hk => List.mem_range.mp hk)
  rw [List.length_range] at hzl
  have hz : ∀ k, k < n → mxI (ro T k) ≤ el z k := fun k hk => (hzb k k (List.getElem?_range hk)).1
  have hz2 : ∀ k, k < n → el z k ≤ 102 := fun k hk => by have := (hzb k k (List.getElem?_range hk)).2; have := (b1 k hk).2; omega
  have c10 : c_law_10 (V n T t (.rd (tB ((LR T n).take 7))) (.rd (tB (gaps ((LR T n).take 7)))) (.rd (tB T)) .no .no .no) s3 = some (.lst (z.map D.int), s4) := by
    unfold c_law_10
    have e5 : rg1 [.int (n : Nat)] = some (rgs n) := rg1_n (by omega)
    exact lc_eq (s1 := s3) (ds := rgs n) (by simp [V, e5]) (by rw [rgs_len]; omega) ez
  have hzne : z ≠ [] := by intro e; rw [e] at hzl; simp at hzl; omega
  have c11 : c_law_11 (V n T (.rd (wI z)) (.rd (tB ((LR T n).take 7))) (.rd (tB (gaps ((LR T n).take 7)))) (.rd (tB T)) .no .no .no) s4 = some (.lst ((z.map fun x => x + 1).map D.int), s4) := by
    unfold c_law_11
    rw [List.map_map]
    exact lc_eq (s1 := s4) (ds := z.map D.int) (by simp [V]) (by rw [List.length_map]; omega) (cLp_map (α := Int) D.int (fun x => .int (x + 1)) z fun x _ => ⟨_, rfl, rfl, by simp [V]⟩)
  obtain ⟨w, hwl, hw1, hst⟩ : ∃ w : List Int, w.length = n ∧ (∀ k, k < n → mxI (ro T k) ≤ el w k) ∧ (sIf (bOf (e2 dEq (eCall bMinS (eAs (eVar 5) eAs0)) (eC (.int 0)))) (sSet 5 (eCall bTup (eAs c_law_11 eAs0))) sNil) (V n T (.rd (wI z)) (.rd (tB ((LR T n).take 7))) (.rd (tB (gaps ((LR T n).take 7)))) (.rd (tB T)) .no .no .no) s4 = some (.nx (V n T (.rd (wI w)) (.rd (tB ((LR T n).take 7))) (.rd (tB (gaps ((LR T n).take 7)))) (.rd (tB T)) .no .no .no), s4) := by
    have hm := min_wI hzne
    by_cases h0 : mnI z = 0
    · refine ⟨z.map fun x => x + 1, by rw [List.length_map]; exact hzl, fun k hk => ?_, ?_⟩
      · have : el (z.map fun x => x + 1) k = el z k + 1 := by
          unfold el
          rw [List.getElem?_map, List.getElem?_eq_getElem (show k < z.length by omega)]; rfl
        rw [this]
        have := hz k hk
        omega
      · have hc : (bOf (e2 dEq (eCall bMinS (eAs (eVar 5) eAs0)) (eC (.int 0)))) (V n T (.rd (wI z)) (.rd (tB ((LR T n).take 7))) (.rd (tB (gaps ((LR T n).take 7)))) (.rd (tB T)) .no .no .no) s4 = some (true, s4) := by simp [V, hm, h0]
        rw [sIf_ap, hc, Option.bind_some, if_pos rfl, sSet_ap, eCall_ap, eAs_ap, c11]
        have et : D.tup ((z.map fun x => x + 1).map D.int) = wI (z.map fun x => x + 1) := rfl
        simp [V, et, -List.map_map]
    · exact ⟨z, hzl, hz, by simp [V, hm, h0]⟩
  rw [seq_nx (δ1 := V n T (.rd (wI z)) (.rd (tB ((LR T n).take 7))) (.rd (tB (gaps ((LR T n).take 7)))) (.rd (tB T)) .no .no .no) (s1 := s4) (by
    rw [sSet_ap, eCall_ap, eAs_ap, c10]
    have et : D.tup (z.map D.int) = wI z := rfl
    simp [V, et])]
  rw [seq_nx hst]
  have hfi := row_fi hT hwl hw1
  obtain ⟨ql, qle⟩ := low_lst hT hfi
  have hml : lowF T n n w ∈ LR T n := (mem_LR hT).mpr ql
  have nnw : ∀ {f : List Int}, Fi T n f → ∀ x ∈ f, 0 ≤ x := fun h x hx => by
    obtain ⟨i, hi, rfl⟩ := mem_el hx
    exact h.nn i (by rw [← h.len]; exact hi)
  rw [seq_nx (δ1 := V n T (.rd (wI w)) (.rd (tB ((LR T n).take 7))) (.rd (tB (gaps ((LR T n).take 7)))) (.rd (tB T)) (.rd (wI (lowF T n n w))) .no .no) (s1 := s4) (by
    simp [V, lowd hT hwl (nnw hfi) hfi.sm])]
  have okL : PyData.strOk "least" = true := by decide +kernel
  have nL : dNe (.str "least") (.str "least") = some (.bl false) := by
    rw [dNe, dOk_str 8 okL, eqv_str]
    rfl
  rw [seq_nx (δ1 := V n T (.rd (wI w)) (.rd (tB ((LR T n).take 7))) (.rd (tB (gaps ((LR T n).take 7)))) (.rd (tB T)) (.rd (wI (lowF T n n w))) .no .no) (s1 := s4) (by
    obtain ⟨x, hx⟩ := lpap hT ql.len (nnw ql.fi) ql.sm s4
    rw [ql.tg, if_pos rfl] at hx
    have h12 := law12 (T := T) (s6 := .rd (tB ((LR T n).take 7))) (s7 := .rd (tB (gaps ((LR T n).take 7)))) (s8 := .rd (tB T)) (s10 := .no) (s11 := .no) (show n ≤ 30 by omega) ql.len hwl qle s4
    unfold V at h12
    simp [V, notIn_tB, hml, h12, any_no, -any_lst, hx, nL])]
  obtain ⟨y, hy, s5, hp5⟩ := pick (m := tB (LR T n)) (xs := (LR T n).map wI) rfl (by simp) (by rw [List.length_map]; exact List.length_pos_of_mem hml) (by rw [List.length_map]; omega) s4
  obtain ⟨r, hr, rfl⟩ := List.mem_map.mp hy
  have q := (mem_LR hT).mp hr
  rw [seq_nx (δ1 := V n T (.rd (wI w)) (.rd (tB ((LR T n).take 7))) (.rd (tB (gaps ((LR T n).take 7)))) (.rd (tB T)) (.rd (wI (lowF T n n w))) (.rd (wI r)) .no) (s1 := s5) (by simp [V, hp5])]
  rw [seq_nx (δ1 := V n T (.rd (wI w)) (.rd (tB ((LR T n).take 7))) (.rd (tB (gaps ((LR T n).take 7)))) (.rd (tB T)) (.rd (wI (lowF T n n w))) (.rd (wI r)) .no) (s1 := s5) (by
    simp [V, lowd hT q.len (nnw q.fi) q.sm, q.low hT n (Nat.le_refl n), ne_wI])]
  have hmr := min_wI (r := r) (by intro e; have := q.len; rw [e] at this; simp at this; omega)
  refine ⟨s5, ?_⟩
  by_cases hpos : 0 < mnI r
  · have hp := q.pos hpos
    have hW := wide_dist hT (by omega) q hp (fun i hi => by have := hup q i hi; omega)
    obtain ⟨w1, w2, w3, w4⟩ := wide_row hT q
    obtain ⟨x, hx⟩ := lpap hW w1 w2 w3 s5
    rw [w4, if_pos rfl] at hx
    have hwp := wpt hT q.len (fun x hx => by
      obtain ⟨i, hi, rfl⟩ := mem_el hx
      have hi : i < n := by rw [← q.len]; exact hi
      exact ⟨hp i hi, by have := hup q i hi; omega⟩) q.sm q.gp s5
    have a5 := add_wI r [0] (by rw [q.len]; simp; omega)
    have e0 : D.tup [.int 0] = wI [0] := rfl
    rw [seq_nx (δ1 := V n T (.rd (wI w)) (.rd (tB ((LR T n).take 7))) (.rd (tB (gaps ((LR T n).take 7)))) (.rd (tB T)) (.rd (wI (lowF T n n w))) (.rd (wI r)) (.rd (tB (wide T r)))) (s1 := s5) (by
      simp [V, hmr, hpos, show (n : Int) < 8 by omega, hwp, dpap hW, ne_s1_self okDist, e0, a5, hx, nL])]
    simp
  · rw [seq_nx (δ1 := V n T (.rd (wI w)) (.rd (tB ((LR T n).take 7))) (.rd (tB (gaps ((LR T n).take 7)))) (.rd (tB T)) (.rd (wI (lowF T n n w))) (.rd (wI r)) .no) (s1 := s5) (by simp [V, hmr, hpos])]
    simp
end K38
set_option Elab.async false
set_option linter.all false
set_option maxRecDepth 100000
set_option maxHeartbeats 4000000
namespace K38
open PySem PySem.Spec PyProof.Rows L2 DL
theorem all_mk {l : PySem.W.OpenLaw} {w : World} {K : PySem.W.Frag} {h : Heap} {mg : Str → Option Value} {fa : Addr} (X : K.In h) (G : h.Ns mainGlobals mg) (hfa : mg "law" = some (.ref fa))
    {f0 : Addr} {od0 an0 : Option Addr} {sl0 : Array (Option Value)} {oc0 kV0 dc0 pm0 cd0 ct0 : Value} (a0 : PySem.W.nsIn K mainGlobals "is_integer" = some (some (.ref f0))) (l0 : K.lookup f0 = some ⟨oc0, od0, .func (PySem.W.fnOf "is_integer" "is_integer" (defArgs (topS 4)) (defBody (topS 4)) (defScope (topS 4)) .none kV0 dc0 pm0 an0 cd0 ct0), sl0⟩) (c0 : PySem.W.codeIn K cd0 "is_integer" = true) (k0 : PySem.W.keepIn K (.ref f0) = true)
    {f1 : Addr} {od1 an1 : Option Addr} {sl1 : Array (Option Value)} {oc1 kV1 dc1 pm1 cd1 ct1 : Value} (a1 : PySem.W.nsIn K mainGlobals "check_table" = some (some (.ref f1))) (l1 : K.lookup f1 = some ⟨oc1, od1, .func (PySem.W.fnOf "check_table" "check_table" (defArgs (topS 8)) (defBody (topS 8)) (defScope (topS 8)) .none kV1 dc1 pm1 an1 cd1 ct1), sl1⟩) (c1 : PySem.W.codeIn K cd1 "check_table" = true) (k1 : PySem.W.keepIn K (.ref f1) = true)
    {f2 : Addr} {od2 an2 : Option Addr} {sl2 : Array (Option Value)} {oc2 kV2 dc2 pm2 cd2 ct2 : Value} (a2 : PySem.W.nsIn K mainGlobals "choices" = some (some (.ref f2))) (l2 : K.lookup f2 = some ⟨oc2, od2, .func (PySem.W.fnOf "choices" "choices" (defArgs (topS 9)) (defBody (topS 9)) (defScope (topS 9)) .none kV2 dc2 pm2 an2 cd2 ct2), sl2⟩) (c2 : PySem.W.codeIn K cd2 "choices" = true) (k2 : PySem.W.keepIn K (.ref f2) = true)
    {f3 : Addr} {od3 an3 : Option Addr} {sl3 : Array (Option Value)} {oc3 kV3 dc3 pm3 cd3 ct3 : Value} (a3 : PySem.W.nsIn K mainGlobals "distance_paper" = some (some (.ref f3))) (l3 : K.lookup f3 = some ⟨oc3, od3, .func (PySem.W.fnOf "distance_paper" "distance_paper" (defArgs (topS 10)) (defBody (topS 10)) (defScope (topS 10)) .none kV3 dc3 pm3 an3 cd3 ct3), sl3⟩) (c3 : PySem.W.codeIn K cd3 "distance_paper" = true) (k3 : PySem.W.keepIn K (.ref f3) = true)
    {f4 : Addr} {od4 an4 : Option Addr} {sl4 : Array (Option Value)} {oc4 kV4 dc4 pm4 cd4 ct4 : Value} (a4 : PySem.W.nsIn K mainGlobals "check_distances" = some (some (.ref f4))) (l4 : K.lookup f4 = some ⟨oc4, od4, .func (PySem.W.fnOf "check_distances" "check_distances" (defArgs (topS 11)) (defBody (topS 11)) (defScope (topS 11)) .none kV4 dc4 pm4 an4 cd4 ct4), sl4⟩) (c4 : PySem.W.codeIn K cd4 "check_distances" = true) (k4 : PySem.W.keepIn K (.ref f4) = true)
    {f5 : Addr} {od5 an5 : Option Addr} {sl5 : Array (Option Value)} {oc5 kV5 dc5 pm5 cd5 ct5 : Value} (a5 : PySem.W.nsIn K mainGlobals "check_row_spans" = some (some (.ref f5))) (l5 : K.lookup f5 = some ⟨oc5, od5, .func (PySem.W.fnOf "check_row" "check_row" (defArgs (topS 13)) (defBody (topS 13)) (defScope (topS 13)) .none kV5 dc5 pm5 an5 cd5 ct5), sl5⟩) (c5 : PySem.W.codeIn K cd5 "check_row" = true) (k5 : PySem.W.keepIn K (.ref f5) = true)
    {f6 : Addr} {od6 an6 : Option Addr} {sl6 : Array (Option Value)} {oc6 kV6 dc6 pm6 cd6 ct6 : Value} (a6 : PySem.W.nsIn K mainGlobals "least_paper" = some (some (.ref f6))) (l6 : K.lookup f6 = some ⟨oc6, od6, .func (PySem.W.fnOf "least_paper" "least_paper" (defArgs (topS 15)) (defBody (topS 15)) (defScope (topS 15)) .none kV6 dc6 pm6 an6 cd6 ct6), sl6⟩) (c6 : PySem.W.codeIn K cd6 "least_paper" = true) (k6 : PySem.W.keepIn K (.ref f6) = true)
    {f7 : Addr} {od7 an7 : Option Addr} {sl7 : Array (Option Value)} {oc7 kV7 dc7 pm7 cd7 ct7 : Value} (a7 : PySem.W.nsIn K mainGlobals "is_short" = some (some (.ref f7))) (l7 : K.lookup f7 = some ⟨oc7, od7, .func (PySem.W.fnOf "is_short" "is_short" (defArgs (topS 16)) (defBody (topS 16)) (defScope (topS 16)) .none kV7 dc7 pm7 an7 cd7 ct7), sl7⟩) (c7 : PySem.W.codeIn K cd7 "is_short" = true) (k7 : PySem.W.keepIn K (.ref f7) = true)
    {f8 : Addr} {od8 an8 : Option Addr} {sl8 : Array (Option Value)} {oc8 kV8 dc8 pm8 cd8 ct8 : Value} (a8 : PySem.W.nsIn K mainGlobals "lowered" = some (some (.ref f8))) (l8 : K.lookup f8 = some ⟨oc8, od8, .func (PySem.W.fnOf "lowered" "lowered" (defArgs (topS 17)) (defBody (topS 17)) (defScope (topS 17)) .none kV8 dc8 pm8 an8 cd8 ct8), sl8⟩) (c8 : PySem.W.codeIn K cd8 "lowered" = true) (k8 : PySem.W.keepIn K (.ref f8) = true)
    {f9 : Addr} {od9 an9 : Option Addr} {sl9 : Array (Option Value)} {oc9 kV9 dc9 pm9 cd9 ct9 : Value} (a9 : PySem.W.nsIn K mainGlobals "least_rows" = some (some (.ref f9))) (l9 : K.lookup f9 = some ⟨oc9, od9, .func (PySem.W.fnOf "least_rows" "least_rows" (defArgs (topS 18)) (defBody (topS 18)) (defScope (topS 18)) .none kV9 dc9 pm9 an9 cd9 ct9), sl9⟩) (c9 : PySem.W.codeIn K cd9 "least_rows" = true) (k9 : PySem.W.keepIn K (.ref f9) = true)
    {f10 : Addr} {od10 an10 : Option Addr} {sl10 : Array (Option Value)} {oc10 kV10 dc10 pm10 cd10 ct10 : Value} (a10 : PySem.W.nsIn K mainGlobals "greatest_gap" = some (some (.ref f10))) (l10 : K.lookup f10 = some ⟨oc10, od10, .func (PySem.W.fnOf "greatest_gap" "greatest_gap" (defArgs (topS 19)) (defBody (topS 19)) (defScope (topS 19)) .none kV10 dc10 pm10 an10 cd10 ct10), sl10⟩) (c10 : PySem.W.codeIn K cd10 "greatest_gap" = true) (k10 : PySem.W.keepIn K (.ref f10) = true)
    {f11 : Addr} {od11 an11 : Option Addr} {sl11 : Array (Option Value)} {oc11 kV11 dc11 pm11 cd11 ct11 : Value} (a11 : PySem.W.nsIn K mainGlobals "check_row_glues" = some (some (.ref f11))) (l11 : K.lookup f11 = some ⟨oc11, od11, .func (PySem.W.fnOf "check_row" "check_row" (defArgs (topS 21)) (defBody (topS 21)) (defScope (topS 21)) .none kV11 dc11 pm11 an11 cd11 ct11), sl11⟩) (c11 : PySem.W.codeIn K cd11 "check_row" = true) (k11 : PySem.W.keepIn K (.ref f11) = true)
    {f12 : Addr} {od12 an12 : Option Addr} {sl12 : Array (Option Value)} {oc12 kV12 dc12 pm12 cd12 ct12 : Value} (a12 : PySem.W.nsIn K mainGlobals "more_paper" = some (some (.ref f12))) (l12 : K.lookup f12 = some ⟨oc12, od12, .func (PySem.W.fnOf "more_paper" "more_paper" (defArgs (topS 23)) (defBody (topS 23)) (defScope (topS 23)) .none kV12 dc12 pm12 an12 cd12 ct12), sl12⟩) (c12 : PySem.W.codeIn K cd12 "more_paper" = true) (k12 : PySem.W.keepIn K (.ref f12) = true)
    {f13 : Addr} {od13 an13 : Option Addr} {sl13 : Array (Option Value)} {oc13 kV13 dc13 pm13 cd13 ct13 : Value} (a13 : PySem.W.nsIn K mainGlobals "with_point" = some (some (.ref f13))) (l13 : K.lookup f13 = some ⟨oc13, od13, .func (PySem.W.fnOf "with_point" "with_point" (defArgs (topS 24)) (defBody (topS 24)) (defScope (topS 24)) .none kV13 dc13 pm13 an13 cd13 ct13), sl13⟩) (c13 : PySem.W.codeIn K cd13 "with_point" = true) (k13 : PySem.W.keepIn K (.ref f13) = true)
    {f14 : Addr} {od14 an14 : Option Addr} {sl14 : Array (Option Value)} {oc14 kV14 dc14 pm14 cd14 ct14 : Value} (a14 : PySem.W.nsIn K mainGlobals "_law_begin" = some (some (.ref f14))) (l14 : K.lookup f14 = some ⟨oc14, od14, .func (PySem.W.fnOf "_law_begin" "_law_begin" (defArgs (topS 26)) (defBody (topS 26)) (defScope (topS 26)) .none kV14 dc14 pm14 an14 cd14 ct14), sl14⟩) (c14 : PySem.W.codeIn K cd14 "_law_begin" = true) (k14 : PySem.W.keepIn K (.ref f14) = true)
    {f15 : Addr} {od15 an15 : Option Addr} {sl15 : Array (Option Value)} {oc15 kV15 dc15 pm15 cd15 ct15 : Value} (a15 : PySem.W.nsIn K mainGlobals "_law_take" = some (some (.ref f15))) (l15 : K.lookup f15 = some ⟨oc15, od15, .func (PySem.W.fnOf "_law_take" "_law_take" (defArgs (topS 27)) (defBody (topS 27)) (defScope (topS 27)) .none kV15 dc15 pm15 an15 cd15 ct15), sl15⟩) (c15 : PySem.W.codeIn K cd15 "_law_take" = true) (k15 : PySem.W.keepIn K (.ref f15) = true)
    {f16 : Addr} {od16 an16 : Option Addr} {sl16 : Array (Option Value)} {oc16 kV16 dc16 pm16 cd16 ct16 : Value} (a16 : PySem.W.nsIn K mainGlobals "_law_short" = some (some (.ref f16))) (l16 : K.lookup f16 = some ⟨oc16, od16, .func (PySem.W.fnOf "_law_short" "_law_short" (defArgs (topS 28)) (defBody (topS 28)) (defScope (topS 28)) .none kV16 dc16 pm16 an16 cd16 ct16), sl16⟩) (c16 : PySem.W.codeIn K cd16 "_law_short" = true) (k16 : PySem.W.keepIn K (.ref f16) = true)
    {f17 : Addr} {od17 an17 : Option Addr} {sl17 : Array (Option Value)} {oc17 kV17 dc17 pm17 cd17 ct17 : Value} (a17 : PySem.W.nsIn K mainGlobals "_law_table" = some (some (.ref f17))) (l17 : K.lookup f17 = some ⟨oc17, od17, .func (PySem.W.fnOf "_law_table" "_law_table" (defArgs (topS 29)) (defBody (topS 29)) (defScope (topS 29)) .none kV17 dc17 pm17 an17 cd17 ct17), sl17⟩) (c17 : PySem.W.codeIn K cd17 "_law_table" = true) (k17 : PySem.W.keepIn K (.ref f17) = true)
    {f18 : Addr} {od18 an18 : Option Addr} {sl18 : Array (Option Value)} {oc18 kV18 dc18 pm18 cd18 ct18 : Value} (a18 : PySem.W.nsIn K mainGlobals "_law_pick" = some (some (.ref f18))) (l18 : K.lookup f18 = some ⟨oc18, od18, .func (PySem.W.fnOf "_law_pick" "_law_pick" (defArgs (topS 30)) (defBody (topS 30)) (defScope (topS 30)) .none kV18 dc18 pm18 an18 cd18 ct18), sl18⟩) (c18 : PySem.W.codeIn K cd18 "_law_pick" = true) (k18 : PySem.W.keepIn K (.ref f18) = true)
    {f19 : Addr} {od19 an19 : Option Addr} {sl19 : Array (Option Value)} {oc19 kV19 dc19 pm19 cd19 ct19 : Value} (a19 : PySem.W.nsIn K mainGlobals "law" = some (some (.ref f19))) (l19 : K.lookup f19 = some ⟨oc19, od19, .func (PySem.W.fnOf "law" "law" (defArgs (topS 31)) (defBody (topS 31)) (defScope (topS 31)) .none kV19 dc19 pm19 an19 cd19 ct19), sl19⟩) (c19 : PySem.W.codeIn K cd19 "law" = true) (k19 : PySem.W.keepIn K (.ref f19) = true)
    (z_abs : PySem.W.nsIn K mainGlobals "abs" = some none)
    (z_all : PySem.W.nsIn K mainGlobals "all" = some none)
    (z_any : PySem.W.nsIn K mainGlobals "any" = some none)
    (z_bool : PySem.W.nsIn K mainGlobals "bool" = some none)
    (z_enumerate : PySem.W.nsIn K mainGlobals "enumerate" = some none)
    (z_int : PySem.W.nsIn K mainGlobals "int" = some none)
    (z_isinstance : PySem.W.nsIn K mainGlobals "isinstance" = some none)
    (z_len : PySem.W.nsIn K mainGlobals "len" = some none)
    (z_list : PySem.W.nsIn K mainGlobals "list" = some none)
    (z_max : PySem.W.nsIn K mainGlobals "max" = some none)
    (z_min : PySem.W.nsIn K mainGlobals "min" = some none)
    (z_range : PySem.W.nsIn K mainGlobals "range" = some none)
    (z_tuple : PySem.W.nsIn K mainGlobals "tuple" = some none)
    (z_zip : PySem.W.nsIn K mainGlobals "zip" = some none)
    {t_MOST_FAR : Tok} (m_MOST_FAR : PySem.W.nsIn K mainGlobals "MOST_FAR" = some (some (.int 1000 t_MOST_FAR)))
    {t_MOST_POINTS : Tok} (m_MOST_POINTS : PySem.W.nsIn K mainGlobals "MOST_POINTS" = some (some (.int 8 t_MOST_POINTS)))
    : ∃ fd : FuncData, (∀ (s : Shared) (v : Value), BindsTo s fd ⟨[v], []⟩ [("script", v)]) ∧ ∀ base : Heap, K.In base → base.Ns mainGlobals mg → FnOk l.prog w K mg base CX0 7 fa fd ["script"] (spLaw K) := by
  have e := hfa.symm.trans (PySem.W.mg_of X G a19)
  cases e
  have F0 := fun_mk (st := topS 4) l0 c0 k0
  have b0 := F0.binds (ps := ["value"]) fun _ _ _ _ _ _ us hl => match us, hl with | [_], _ => rfl
  have F1 := fun_mk (st := topS 8) l1 c1 k1
  have b1 := F1.binds (ps := ["table"]) fun _ _ _ _ _ _ us hl => match us, hl with | [_], _ => rfl
  have F2 := fun_mk (st := topS 9) l2 c2 k2
  have b2 := F2.binds (ps := ["many", "size"]) fun _ _ _ _ _ _ us hl => match us, hl with | [_, _], _ => rfl
  have F3 := fun_mk (st := topS 10) l3 c3 k3
  have b3 := F3.binds (ps := ["table"]) fun _ _ _ _ _ _ us hl => match us, hl with | [_], _ => rfl
  have F4 := fun_mk (st := topS 11) l4 c4 k4
  have b4 := F4.binds (ps := ["table"]) fun _ _ _ _ _ _ us hl => match us, hl with | [_], _ => rfl
  have F5 := fun_mk (st := topS 13) l5 c5 k5
  have b5 := F5.binds (ps := ["table", "row"]) fun _ _ _ _ _ _ us hl => match us, hl with | [_, _], _ => rfl
  have F6 := fun_mk (st := topS 15) l6 c6 k6
  have b6 := F6.binds (ps := ["table", "row"]) fun _ _ _ _ _ _ us hl => match us, hl with | [_, _], _ => rfl
  have F7 := fun_mk (st := topS 16) l7 c7 k7
  have b7 := F7.binds (ps := ["table", "row"]) fun _ _ _ _ _ _ us hl => match us, hl with | [_, _], _ => rfl
  have F8 := fun_mk (st := topS 17) l8 c8 k8
  have b8 := F8.binds (ps := ["table", "row"]) fun _ _ _ _ _ _ us hl => match us, hl with | [_, _], _ => rfl
  have F9 := fun_mk (st := topS 18) l9 c9 k9
  have b9 := F9.binds (ps := ["table"]) fun _ _ _ _ _ _ us hl => match us, hl with | [_], _ => rfl
  have F10 := fun_mk (st := topS 19) l10 c10 k10
  have b10 := F10.binds (ps := ["row", "other"]) fun _ _ _ _ _ _ us hl => match us, hl with | [_, _], _ => rfl
  have F11 := fun_mk (st := topS 21) l11 c11 k11
  have b11 := F11.binds (ps := ["table", "row"]) fun _ _ _ _ _ _ us hl => match us, hl with | [_, _], _ => rfl
  have F12 := fun_mk (st := topS 23) l12 c12 k12
  have b12 := F12.binds (ps := ["table", "row"]) fun _ _ _ _ _ _ us hl => match us, hl with | [_, _], _ => rfl
  have F13 := fun_mk (st := topS 24) l13 c13 k13
  have b13 := F13.binds (ps := ["table", "row"]) fun _ _ _ _ _ _ us hl => match us, hl with | [_, _], _ => rfl
  have F14 := fun_mk (st := topS 26) l14 c14 k14
  have b14 := F14.binds (ps := ["script"]) fun _ _ _ _ _ _ us hl => match us, hl with | [_], _ => rfl
  have F15 := fun_mk (st := topS 27) l15 c15 k15
  have b15 := F15.binds (ps := ["d", "many"]) fun _ _ _ _ _ _ us hl => match us, hl with | [_, _], _ => rfl
  have F16 := fun_mk (st := topS 28) l16 c16 k16
  have b16 := F16.binds (ps := ["table"]) fun _ _ _ _ _ _ us hl => match us, hl with | [_], _ => rfl
  have F17 := fun_mk (st := topS 29) l17 c17 k17
  have b17 := F17.binds (ps := ["d", "n", "top"]) fun _ _ _ _ _ _ us hl => match us, hl with | [_, _, _], _ => rfl
  have F18 := fun_mk (st := topS 30) l18 c18 k18
  have b18 := F18.binds (ps := ["d", "menu"]) fun _ _ _ _ _ _ us hl => match us, hl with | [_, _], _ => rfl
  have F19 := fun_mk (st := topS 31) l19 c19 k19
  exact ⟨PySem.W.fnOf "law" "law" (defArgs (topS 31)) (defBody (topS 31)) (defScope (topS 31)) .none kV19 dc19 pm19 an19 cd19 ct19, fun s v => .of_eq rfl, fun base _ _ => ok_law (K := K) (mg := mg) ⟨f0, _, F0, (PySem.W.mg_of X G a0), b0, f1, _, F1, (PySem.W.mg_of X G a1), b1, f2, _, F2, (PySem.W.mg_of X G a2), b2, f3, _, F3, (PySem.W.mg_of X G a3), b3, f4, _, F4, (PySem.W.mg_of X G a4), b4, f5, _, F5, (PySem.W.mg_of X G a5), b5, f6, _, F6, (PySem.W.mg_of X G a6), b6, f7, _, F7, (PySem.W.mg_of X G a7), b7, f8, _, F8, (PySem.W.mg_of X G a8), b8, f9, _, F9, (PySem.W.mg_of X G a9), b9, f10, _, F10, (PySem.W.mg_of X G a10), b10, f11, _, F11, (PySem.W.mg_of X G a11), b11, f12, _, F12, (PySem.W.mg_of X G a12), b12, f13, _, F13, (PySem.W.mg_of X G a13), b13, f14, _, F14, (PySem.W.mg_of X G a14), b14, f15, _, F15, (PySem.W.mg_of X G a15), b15, f16, _, F16, (PySem.W.mg_of X G a16), b16, f17, _, F17, (PySem.W.mg_of X G a17), b17, f18, _, F18, (PySem.W.mg_of X G a18), b18, (PySem.W.mg_none_of X G z_abs), (PySem.W.mg_none_of X G z_all), (PySem.W.mg_none_of X G z_any), (PySem.W.mg_none_of X G z_bool), (PySem.W.mg_none_of X G z_enumerate), (PySem.W.mg_none_of X G z_int), (PySem.W.mg_none_of X G z_isinstance), (PySem.W.mg_none_of X G z_len), (PySem.W.mg_none_of X G z_list), (PySem.W.mg_none_of X G z_max), (PySem.W.mg_none_of X G z_min), (PySem.W.mg_none_of X G z_range), (PySem.W.mg_none_of X G z_tuple), (PySem.W.mg_none_of X G z_zip), ⟨_, PySem.W.mg_of X G m_MOST_FAR⟩, ⟨_, PySem.W.mg_of X G m_MOST_POINTS⟩⟩ F19 law_true⟩
end K38
open PySem PySem.W PyProof.Rows
set_option maxHeartbeats 0 in
theorem PySem.Challenge.cw_farandnear_k38_whole_least_rows_and_more_holds : PySem.Challenge.rw_farandnear_k38_whole_least_rows_and_more.Holds := by
  w_on; o_law; k_head; (case hw => w_witness2)
  k_fill
  refine L2.walk_of (l := PySem.Challenge.rw_farandnear_k38_whole_least_rows_and_more) (n := 63) (k := 7) (x := "script") (CX := fun _ => L2.CX0) (sp := fun w => DL.spLaw _) rfl (by decide) rfl ⟨rfl, by decide, by decide⟩ (fun w h Y => PySem.W.kIn_of Y) ?F (fun _ _ a ns hl _ hS => ⟨a, ns, rfl, hS, hl, fun _ => rfl⟩) (fun _ _ _ _ _ h => h)
  case F =>
    intro w mg fa h KX G hmg
    refine' K38.all_mk KX G hmg ?a0 ?l0 ?c0 ?k0 ?a1 ?l1 ?c1 ?k1 ?a2 ?l2 ?c2 ?k2 ?a3 ?l3 ?c3 ?k3 ?a4 ?l4 ?c4 ?k4 ?a5 ?l5 ?c5 ?k5 ?a6 ?l6 ?c6 ?k6 ?a7 ?l7 ?c7 ?k7 ?a8 ?l8 ?c8 ?k8 ?a9 ?l9 ?c9 ?k9 ?a10 ?l10 ?c10 ?k10 ?a11 ?l11 ?c11 ?k11 ?a12 ?l12 ?c12 ?k12 ?a13 ?l13 ?c13 ?k13 ?a14 ?l14 ?c14 ?k14 ?a15 ?l15 ?c15 ?k15 ?a16 ?l16 ?c16 ?k16 ?a17 ?l17 ?c17 ?k17 ?a18 ?l18 ?c18 ?k18 ?a19 ?l19 ?c19 ?k19 ?z_abs ?z_all ?z_any ?z_bool ?z_enumerate ?z_int ?z_isinstance ?z_len ?z_list ?z_max ?z_min ?z_range ?z_tuple ?z_zip ?m_MOST_FAR ?m_MOST_POINTS
    (case a0 => k_is); (case l0 => k_is); (case c0 => k_is); (case k0 => k_is); (case a1 => k_is); (case l1 => k_is); (case c1 => k_is); (case k1 => k_is); (case a2 => k_is); (case l2 => k_is); (case c2 => k_is); (case k2 => k_is); (case a3 => k_is); (case l3 => k_is); (case c3 => k_is); (case k3 => k_is); (case a4 => k_is); (case l4 => k_is); (case c4 => k_is); (case k4 => k_is); (case a5 => k_is); (case l5 => k_is); (case c5 => k_is); (case k5 => k_is); (case a6 => k_is); (case l6 => k_is); (case c6 => k_is); (case k6 => k_is); (case a7 => k_is); (case l7 => k_is); (case c7 => k_is); (case k7 => k_is); (case a8 => k_is); (case l8 => k_is); (case c8 => k_is); (case k8 => k_is); (case a9 => k_is); (case l9 => k_is); (case c9 => k_is); (case k9 => k_is); (case a10 => k_is); (case l10 => k_is); (case c10 => k_is); (case k10 => k_is); (case a11 => k_is); (case l11 => k_is); (case c11 => k_is); (case k11 => k_is); (case a12 => k_is); (case l12 => k_is); (case c12 => k_is); (case k12 => k_is); (case a13 => k_is); (case l13 => k_is); (case c13 => k_is); (case k13 => k_is); (case a14 => k_is); (case l14 => k_is); (case c14 => k_is); (case k14 => k_is); (case a15 => k_is); (case l15 => k_is); (case c15 => k_is); (case k15 => k_is); (case a16 => k_is); (case l16 => k_is); (case c16 => k_is); (case k16 => k_is); (case a17 => k_is); (case l17 => k_is); (case c17 => k_is); (case k17 => k_is); (case a18 => k_is); (case l18 => k_is); (case c18 => k_is); (case k18 => k_is); (case a19 => k_is); (case l19 => k_is); (case c19 => k_is); (case k19 => k_is); (case z_abs => k_is); (case z_all => k_is); (case z_any => k_is); (case z_bool => k_is); (case z_enumerate => k_is); (case z_int => k_is); (case z_isinstance => k_is); (case z_len => k_is); (case z_list => k_is); (case z_max => k_is); (case z_min => k_is); (case z_range => k_is); (case z_tuple => k_is); (case z_zip => k_is); (case m_MOST_FAR => k_is); (case m_MOST_POINTS => k_is)
