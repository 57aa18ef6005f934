import PyProof.Rows.All
import Wide.All
import OpenK.AllK
import Wide.FinOn
import HandS.ForMost
import HandS.TupAny
import HandS.Wide
import HandS.IsInst
import HandS.Zip
import HandS.Style
import HandS.NoneIn
import HandS.Conv
import PyProof.MaxThree
import KE.GoesEnum
import KE.DataFind
import KE.KRevSl
import KE.KTupSum
import HandS.TupSets
import KE.DataAny
import HandS.TupMul
import KE.KIndexOf
import KE.SortData
import HandS.SetFor
import PySem.Challenge.RW_farandnear_k36_whole_covers_as_distances
set_option Elab.async false
set_option linter.all false
set_option maxRecDepth 100000
set_option maxHeartbeats 4000000
/-! DL1: data as trees (D), what stands in the abstract heap for them (Rp), the source of draws (Src), expressions as functions of the slots' data. -/
namespace DL
open PySem PySem.Spec PyProof.Rows L2

inductive D where
  | non | bl (b : Bool) | int (i : Int) | str (x : Str) | tup (xs : List D) | lst (xs : List D) | src | dct (kvs : List (Str × Str)) | tupk (xs : List D) | rng (lo hi : Int)
deriving Inhabited

/-- where the source of draws stands: its own list, the script's copy -/
structure Sr where
  dA : Addr
  q : Addr
  /-- lists that no value leads to -/
  hid : Addr → Prop
  hA : hid dA
  hQ : hid q
/-- what is hidden is tracked -/
def Sr.tr (S : Sr) (H : Hp) : Prop := ∀ b, S.hid b → H b ≠ none
/-- the source of draws -/
structure Src where
  script : List Int
  pos : Nat
  big : Int
  seed : Int

mutual
inductive Rp (S : Sr) (H : Hp) : V → D → List Addr → Prop
  | non : Rp S H .non .non []
  | bl (b : Bool) : Rp S H (.bl b) (.bl b) []
  | int (i : Int) : Rp S H (.int i) (.int i) []
  | str (x : Str) : Rp S H (.str x) (.str x) []
  | tup {a : Addr} {vs : List V} {ds : List D} {L : List Addr} : Rd H a (.tup vs) → Rps S H vs ds L → Rp S H (.ref a) (.tup ds) L
  | lst {a : Addr} {vs : List V} {ds : List D} {L : List Addr} : H a = some (.lst vs) → ¬ S.hid a → Rps S H vs ds L → Rp S H (.ref a) (.lst ds) (a :: L)
  | src : Rp S H (.ref S.dA) .src []
  | dct {a : Addr} {kvs : List (Str × Str)} : H a = some (.dK (kvs.map fun p => (Sum.inr p.1, V.str p.2))) → Rp S H (.ref a) (.dct kvs) []
  /-- a tuple whose object is known to be plain (its methods may be called) -/
  | tupk {a : Addr} {o : Obj} {vs : List V} {ds : List D} {L : List Addr} : H a = some (.frz o (.tup vs)) → o.dict = none → Rps S H vs ds L → Rp S H (.ref a) (.tupk ds) L
  | rng {a : Addr} {o : Obj} {lo hi : Int} : H a = some (.frz o (.rng lo hi)) → Rp S H (.ref a) (.rng lo hi) []
inductive Rps (S : Sr) (H : Hp) : List V → List D → List Addr → Prop
  | nil : Rps S H [] [] []
  | cons {v : V} {vs : List V} {d : D} {ds : List D} {L L' : List Addr} : Rp S H v d L → Rps S H vs ds L' → Rps S H (v :: vs) (d :: ds) (L ++ L')
end

/-- what stays: tuples, lists but those at W, what is tracked -/
structure HE (W : Addr → Prop) (H H' : Hp) : Prop where
  tup : ∀ b xs, H b = some (.tup xs) → H' b = some (.tup xs)
  lst : ∀ b xs, ¬ W b → H b = some (.lst xs) → H' b = some (.lst xs)
  new : ∀ b, H' b = none → H b = none
  dk : ∀ b kvs, H b = some (.dK kvs) → H' b = some (.dK kvs)
  fz : ∀ b o u, H b = some (.frz o u) → H' b = some (.frz o u)
abbrev HE0 := HE (fun _ => False)
abbrev Ext (S : Sr) := HE (fun b => b = S.dA)

section
variable {S : Sr} {W W' : Addr → Prop} {H H1 H2 H' : Hp}
theorem Rd.uniq {H : Hp} {a : Addr} {xs ys : List V} (h : Rd H a (.tup xs)) (h' : Rd H a (.tup ys)) : xs = ys := by
  rcases h with h | ⟨o, h⟩ <;> rcases h' with h' | ⟨o', h'⟩ <;> rw [h] at h' <;> cases h' <;> rfl
theorem HE.rd {b : Addr} {xs : List V} (a : HE W H H') (h : Rd H b (.tup xs)) : Rd H' b (.tup xs) := h.elim (fun h => .inl (a.tup b xs h)) fun ⟨o, h⟩ => .inr ⟨o, a.fz b o _ h⟩
theorem HE.refl : HE W H H := ⟨fun _ _ h => h, fun _ _ _ h => h, fun _ h => h, fun _ _ h => h, fun _ _ _ h => h⟩
theorem HE.trans (a : HE W H H1) (b : HE W H1 H2) : HE W H H2 := ⟨fun c xs h => b.tup c xs (a.tup c xs h), fun c xs w h => b.lst c xs w (a.lst c xs w h), fun c h => a.new c (b.new c h), fun c xs h => b.dk c xs (a.dk c xs h), fun c o u h => b.fz c o u (a.fz c o u h)⟩
theorem HE.mono (a : HE W H H1) (h : ∀ b, W b → W' b) : HE W' H H1 := ⟨a.tup, fun c xs w e => a.lst c xs (fun z => w (h c z)) e, a.new, a.dk, a.fz⟩
theorem HE.up0 (a : HE0 H H1) : HE W H H1 := a.mono fun _ z => z.elim
theorem HE.fresh {p : Addr} {o : HO} (h : H p = none) : HE W H (upd H p o) :=
  ⟨fun b xs e => by rw [upd_ne (ne_of_none e h)]; exact e, fun b xs _ e => by rw [upd_ne (ne_of_none e h)]; exact e, fun b e => by
    by_cases hb : b = p
    · subst hb; exact h
    · rw [upd_ne hb] at e; exact e, fun b xs e => by rw [upd_ne (ne_of_none e h)]; exact e, fun b o u e => by rw [upd_ne (ne_of_none e h)]; exact e⟩
theorem HE.write {p : Addr} {xs ys : List V} (h : H p = some (.lst xs)) (w : W p) : HE W H (upd H p (.lst ys)) :=
  ⟨fun b zs e => by rw [upd_ne (ne_of e h (by intro z; cases z))]; exact e, fun b zs n e => by
      have hb : b ≠ p := fun z => n (z ▸ w)
      rw [upd_ne hb]; exact e, fun b e => by
    by_cases hb : b = p
    · subst hb; rw [upd_same] at e; cases e
    · rw [upd_ne hb] at e; exact e, fun b zs e => by rw [upd_ne (ne_of e h (by intro z; cases z))]; exact e, fun b o u e => by rw [upd_ne (ne_of e h (by intro z; cases z))]; exact e⟩

mutual
theorem Rp.ne {v : V} {d : D} {L : List Addr} (r : Rp S H v d L) : ∀ a ∈ L, ¬ S.hid a ∧ ∃ xs, H a = some (.lst xs) := by
  cases r with
  | non => simp
  | bl => simp
  | int => simp
  | str => simp
  | src => simp
  | dct => simp
  | rng => simp
  | tup h rs => exact rs.ne
  | tupk h _ rs => exact rs.ne
  | lst h n rs =>
    intro a ha
    rcases List.mem_cons.mp ha with rfl | ha
    · exact ⟨n, _, h⟩
    · exact rs.ne a ha
theorem Rps.ne {vs : List V} {ds : List D} {L : List Addr} (r : Rps S H vs ds L) : ∀ a ∈ L, ¬ S.hid a ∧ ∃ xs, H a = some (.lst xs) := by
  cases r with
  | nil => simp
  | cons r rs =>
    intro a ha
    rcases List.mem_append.mp ha with ha | ha
    · exact r.ne a ha
    · exact rs.ne a ha
end
mutual
theorem Rp.ext {v : V} {d : D} {L : List Addr} (he : HE W H H') (hL : ∀ a ∈ L, ¬ W a) (r : Rp S H v d L) : Rp S H' v d L := by
  cases r with
  | non => exact .non
  | bl b => exact .bl b
  | int i => exact .int i
  | str x => exact .str x
  | src => exact .src
  | dct e => exact .dct (he.dk _ _ e)
  | rng e => exact .rng (he.fz _ _ _ e)
  | tup h rs => exact .tup (he.rd h) (rs.ext he hL)
  | tupk h hd rs => exact .tupk (he.fz _ _ _ h) hd (rs.ext he hL)
  | lst h n rs => exact .lst (he.lst _ _ (hL _ List.mem_cons_self) h) n (rs.ext he fun a ha => hL a (List.mem_cons_of_mem _ ha))
theorem Rps.ext {vs : List V} {ds : List D} {L : List Addr} (he : HE W H H') (hL : ∀ a ∈ L, ¬ W a) (r : Rps S H vs ds L) : Rps S H' vs ds L := by
  cases r with
  | nil => exact .nil
  | cons r rs => exact .cons (r.ext he fun a ha => hL a (List.mem_append_left _ ha)) (rs.ext he fun a ha => hL a (List.mem_append_right _ ha))
end
theorem Rp.extS {v : V} {d : D} {L : List Addr} (r : Rp S H v d L) (he : Ext S H H') : Rp S H' v d L := r.ext he fun a ha z => (r.ne a ha).1 (z ▸ S.hA)
theorem Rps.extS {vs : List V} {ds : List D} {L : List Addr} (r : Rps S H vs ds L) (he : Ext S H H') : Rps S H' vs ds L := r.ext he fun a ha z => (r.ne a ha).1 (z ▸ S.hA)
theorem Rp.ext0 {v : V} {d : D} {L : List Addr} (r : Rp S H v d L) (he : HE0 H H') : Rp S H' v d L := r.ext he fun _ _ z => z
theorem Rps.ext0 {vs : List V} {ds : List D} {L : List Addr} (r : Rps S H vs ds L) (he : HE0 H H') : Rps S H' vs ds L := r.ext he fun _ _ z => z

theorem Rps.len {vs : List V} {ds : List D} {L : List Addr} (r : Rps S H vs ds L) : vs.length = ds.length := by
  induction ds generalizing vs L with
  | nil => cases r; rfl
  | cons d ds ih =>
    cases r with
    | cons r rs => simp [ih rs]
theorem Rps.get {vs : List V} {ds : List D} {L : List Addr} (r : Rps S H vs ds L) {i : Nat} {d : D} (h : ds[i]? = some d) : ∃ v L', vs[i]? = some v ∧ Rp S H v d L' ∧ ∀ a ∈ L', a ∈ L := by
  induction ds generalizing vs L i with
  | nil => simp at h
  | cons e ds ih =>
    cases r with
    | cons r rs =>
      cases i with
      | zero =>
        have : e = d := by simpa using h
        subst this
        exact ⟨_, _, rfl, r, fun a ha => List.mem_append_left _ ha⟩
      | succ i =>
        obtain ⟨v, L', h1, h2, h3⟩ := ih rs (i := i) (by simpa using h)
        exact ⟨v, L', by simpa using h1, h2, fun a ha => List.mem_append_right _ (h3 a ha)⟩
theorem Rps.append {vs ws : List V} {ds es : List D} {L L' : List Addr} (r : Rps S H vs ds L) (r' : Rps S H ws es L') : Rps S H (vs ++ ws) (ds ++ es) (L ++ L') := by
  induction ds generalizing vs L with
  | nil => cases r; simpa using r'
  | cons d ds ih =>
    cases r with
    | cons r rs =>
      rw [List.append_assoc]
      exact .cons r (ih rs)
theorem Rps.one {v : V} {d : D} {L : List Addr} (r : Rp S H v d L) : Rps S H [v] [d] L := by
  have := Rps.cons r (Rps.nil (S := S) (H := H))
  rwa [List.append_nil] at this
theorem Rps.mk {vs : List V} {ds : List D} (hl : vs.length = ds.length) (h : ∀ (i : Nat) (d : D) (v : V), ds[i]? = some d → vs[i]? = some v → ∃ L, Rp S H v d L) : ∃ L, Rps S H vs ds L := by
  induction ds generalizing vs with
  | nil =>
    cases vs with
    | nil => exact ⟨_, .nil⟩
    | cons v vs => simp at hl
  | cons d ds ih =>
    cases vs with
    | nil => simp at hl
    | cons v vs =>
      obtain ⟨L, r⟩ := h 0 d v rfl rfl
      obtain ⟨L', r'⟩ := ih (by simpa using hl) fun i e w h1 h2 => h (i + 1) e w (by simpa using h1) (by simpa using h2)
      exact ⟨_, .cons r r'⟩
end

section
variable {S : Sr} {H : Hp} {v : V} {L : List Addr}
theorem Rp.itup {ds : List D} (r : Rp S H v (.tup ds) L) : ∃ a vs, v = .ref a ∧ Rd H a (.tup vs) ∧ Rps S H vs ds L := by
  cases r with
  | tup h rs => exact ⟨_, _, rfl, h, rs⟩
theorem Rp.ilst {ds : List D} (r : Rp S H v (.lst ds) L) : ∃ a vs L', v = .ref a ∧ H a = some (.lst vs) ∧ ¬ S.hid a ∧ Rps S H vs ds L' ∧ L = a :: L' := by
  cases r with
  | lst h n rs => exact ⟨_, _, _, rfl, h, n, rs, rfl⟩
theorem Rp.itupk {ds : List D} (r : Rp S H v (.tupk ds) L) : ∃ a o vs, v = .ref a ∧ H a = some (.frz o (.tup vs)) ∧ o.dict = none ∧ Rps S H vs ds L := by
  cases r with
  | tupk h hd rs => exact ⟨_, _, _, rfl, h, hd, rs⟩
theorem Rp.iint {i : Int} (r : Rp S H v (.int i) L) : v = .int i ∧ L = [] := by cases r; exact ⟨rfl, rfl⟩
theorem Rp.ibl {i : Bool} (r : Rp S H v (.bl i) L) : v = .bl i ∧ L = [] := by cases r; exact ⟨rfl, rfl⟩
theorem Rp.istr {i : Str} (r : Rp S H v (.str i) L) : v = .str i ∧ L = [] := by cases r; exact ⟨rfl, rfl⟩
theorem Rp.inon (r : Rp S H v .non L) : v = .non ∧ L = [] := by cases r; exact ⟨rfl, rfl⟩
end

/-! ### data without lists -/
mutual
def D.lf : D → Bool
  | .lst _ => false
  | .tup xs => lfs xs
  | .tupk xs => lfs xs
  | _ => true
def lfs : List D → Bool
  | [] => true
  | d :: ds => d.lf && lfs ds
end
mutual
theorem Rp.nil {S : Sr} {H : Hp} {v : V} {d : D} {L : List Addr} (r : Rp S H v d L) (h : d.lf = true) : L = [] := by
  cases r with
  | non => rfl
  | bl => rfl
  | int => rfl
  | str => rfl
  | src => rfl
  | dct => rfl
  | rng => rfl
  | tup _ rs => exact rs.nils (by simpa [D.lf] using h)
  | tupk _ _ rs => exact rs.nils (by simpa [D.lf] using h)
  | lst => simp [D.lf] at h
theorem Rps.nils {S : Sr} {H : Hp} {vs : List V} {ds : List D} {L : List Addr} (r : Rps S H vs ds L) (h : lfs ds = true) : L = [] := by
  cases r with
  | nil => rfl
  | cons r rs =>
    simp only [lfs, Bool.and_eq_true] at h
    rw [r.nil h.1, rs.nils h.2]
    rfl
end

/-! ### the source -/
structure SrcOk (S : Sr) (H : Hp) (st : Src) : Prop where
  ne : S.q ≠ S.dA
  at_ : H S.dA = some (.lst [.ref S.q, .int st.pos, .int st.big, .int st.seed])
  cp : H S.q = some (.lst (st.script.map V.int))
  tr : S.tr H
theorem SrcOk.ext0 {S : Sr} {H H' : Hp} {st : Src} (h : SrcOk S H st) (he : HE0 H H') : SrcOk S H' st := ⟨h.ne, he.lst _ _ (fun z => z) h.at_, he.lst _ _ (fun z => z) h.cp, fun b hb z => h.tr b hb (he.new b z)⟩

/-! ### the monad: a draw may be taken; none: the run is not served -/
def M (α : Type) : Type := Src → Option (α × Src)
@[inline] def M.ret {α : Type} (a : α) : M α := fun s => some (a, s)
@[inline] def M.bd {α β : Type} (m : M α) (f : α → M β) : M β := fun s => match m s with
  | none => none
  | some (a, s') => f a s'
instance : Monad M where
  pure := M.ret
  bind := M.bd
/-- from an option -/
@[inline] def M.of {α : Type} : Option α → M α
  | none => fun _ => none
  | some a => M.ret a
def M.no {α : Type} : M α := fun _ => none
theorem bd_some {α β : Type} {m : M α} {f : α → M β} {s s' : Src} {a : α} (h : m s = some (a, s')) : (m.bd f) s = f a s' := by
  show (match m s with | none => none | some (a, s') => f a s') = _
  rw [h]
theorem bd_inv {α β : Type} {m : M α} {f : α → M β} {s s'' : Src} {b : β} (h : (m.bd f) s = some (b, s'')) : ∃ a s', m s = some (a, s') ∧ f a s' = some (b, s'') := by
  have h' : (match m s with | none => none | some (a, s') => f a s') = some (b, s'') := h
  cases e : m s with
  | none => rw [e] at h'; cases h'
  | some p =>
    obtain ⟨a, s'⟩ := p
    rw [e] at h'
    exact ⟨a, s', rfl, h'⟩
theorem of_inv {α : Type} {o : Option α} {s s' : Src} {a : α} (h : M.of o s = some (a, s')) : o = some a ∧ s' = s := by
  cases o with
  | none => cases h
  | some b =>
    have h' : some (b, s) = some (a, s') := h
    cases h'
    exact ⟨rfl, rfl⟩
theorem ret_inv {α : Type} {s s' : Src} {a b : α} (h : M.ret b s = some (a, s')) : b = a ∧ s' = s := by
  have h' : some (b, s) = some (a, s') := h
  cases h'
  exact ⟨rfl, rfl⟩

/-! ### slots -/
inductive Sl where
  | no | rd (d : D) | ow (d : D)
def Sl.d : Sl → Option D
  | .no => none
  | .rd d => some d
  | .ow d => some d
abbrev Ev := List Sl
def gt (δ : Ev) (i : Nat) : Option D := (δ[i]?).bind Sl.d
structure Rs (S : Sr) (H : Hp) (σ : L2.St) (δ : Ev) : Prop where
  len : σ.length = δ.length
  at_ : ∀ i d, gt δ i = some d → ∃ v L, σ[i]? = some (some v) ∧ Rp S H v d L
theorem Rs.extS {S : Sr} {H H' : Hp} {σ : L2.St} {δ : Ev} (r : Rs S H σ δ) (he : Ext S H H') : Rs S H' σ δ := ⟨r.len, fun i d h => by
  obtain ⟨v, L, h1, h2⟩ := r.at_ i d h
  exact ⟨v, L, h1, h2.extS he⟩⟩
theorem Rs.ext0 {S : Sr} {H H' : Hp} {σ : L2.St} {δ : Ev} (r : Rs S H σ δ) (he : HE0 H H') : Rs S H' σ δ := r.extS he.up0
theorem gt_set {δ : Ev} {i j : Nat} {s : Sl} : gt (δ.set i s) j = if i = j then (if i < δ.length then s.d else none) else gt δ j := by
  unfold gt
  by_cases h : i = j
  · subst h
    rw [if_pos rfl]
    by_cases hi : i < δ.length
    · rw [List.getElem?_set_self hi, if_pos hi]; rfl
    · rw [if_neg hi, List.getElem?_eq_none (by simpa using hi)]; rfl
  · rw [List.getElem?_set_ne h, if_neg h]
theorem gt_lt {δ : Ev} {i : Nat} {d : D} (h : gt δ i = some d) : i < δ.length := by
  unfold gt at h
  by_cases hi : i < δ.length
  · exact hi
  · rw [List.getElem?_eq_none (by simpa using hi)] at h; cases h
theorem Rs.set {S : Sr} {H : Hp} {σ : L2.St} {δ : Ev} {i : Nat} {v : V} {s : Sl} (r : Rs S H σ δ) (h : ∀ d, s.d = some d → ∃ L, Rp S H v d L) : Rs S H (σ.set i (some v)) (δ.set i s) :=
  ⟨by simp [r.len], fun j d e => by
    rw [gt_set] at e
    by_cases hij : i = j
    · subst hij
      rw [if_pos rfl] at e
      by_cases hi : i < δ.length
      · rw [if_pos hi] at e
        obtain ⟨L, q⟩ := h d e
        exact ⟨v, L, by rw [List.getElem?_set_self (by rw [r.len]; exact hi)], q⟩
      · rw [if_neg hi] at e; cases e
    · rw [if_neg hij] at e
      obtain ⟨w, L, h1, h2⟩ := r.at_ j d e
      exact ⟨w, L, by rw [List.getElem?_set_ne hij]; exact h1, h2⟩⟩

/-! ### judgements of expressions over data -/
abbrev FE := Ev → M D
def tD (f : FE) : TE := fun σ H Q => ∃ S δ st d st', Rs S H σ δ ∧ SrcOk S H st ∧ f δ st = some (d, st') ∧ ∀ v H' L, Ext S H H' → SrcOk S H' st' → Rp S H' v d L → Q v H'
def tBo (f : Ev → M Bool) : TT := fun σ H Q => ∃ S δ st d st', Rs S H σ δ ∧ SrcOk S H st ∧ f δ st = some (d, st') ∧ ∀ H', Ext S H H' → SrcOk S H' st' → Q d H'
def tAs (f : Ev → M (List D)) : TA := fun σ H Q => ∃ S δ st ds st', Rs S H σ δ ∧ SrcOk S H st ∧ f δ st = some (ds, st') ∧ ∀ vs H' L, Ext S H H' → SrcOk S H' st' → Rps S H' vs ds L → Q vs H'
abbrev DE (X : Cx) (e : Expr) (f : FE) : Prop := PE X e (tD f)
abbrev DT (X : Cx) (e : Expr) (f : Ev → M Bool) : Prop := PT X e (tBo f)
abbrev DW (X : Cx) (e : Expr) (f : Ev → M Bool) : Prop := PW X e (tBo f)
abbrev DA (X : Cx) (es : List Expr) (f : Ev → M (List D)) : Prop := PA X es (tAs f)
theorem _root_.L2.PE.imp {X : Cx} {e : Expr} {t t' : TE} (p : PE X e t) (h : ∀ σ H Q, t' σ H Q → t σ H Q) : PE X e t' := ⟨fun pins s σ H Q I w => p.run pins s σ H Q I (h σ H Q w)⟩
theorem _root_.L2.PT.imp {X : Cx} {e : Expr} {t t' : TT} (p : PT X e t) (h : ∀ σ H Q, t' σ H Q → t σ H Q) : PT X e t' := ⟨fun pins s σ H Q I w => p.run pins s σ H Q I (h σ H Q w)⟩
theorem _root_.L2.PW.imp {X : Cx} {e : Expr} {t t' : TT} (p : PW X e t) (h : ∀ σ H Q, t' σ H Q → t σ H Q) : PW X e t' := ⟨fun wh pins s σ H Q I w => p.run wh pins s σ H Q I (h σ H Q w)⟩
theorem _root_.L2.PA.imp {X : Cx} {e : List Expr} {t t' : TA} (p : PA X e t) (h : ∀ σ H Q, t' σ H Q → t σ H Q) : PA X e t' := ⟨fun pos pins s σ H Q I w => p.run pos pins s σ H Q I (h σ H Q w)⟩
theorem _root_.L2.PS.imp {X : Cx} {e : Stmt} {t t' : TS} (p : PS X e t) (h : ∀ σ H Q, t' Q σ H → t Q σ H) : PS X e t' := ⟨fun pins s σ H Q I w => p.run pins s σ H Q I (h σ H Q w)⟩
theorem _root_.L2.PSs.imp {X : Cx} {e : List Stmt} {t t' : TS} (p : PSs X e t) (h : ∀ σ H Q, t' Q σ H → t Q σ H) : PSs X e t' := ⟨fun pins s σ H Q I w => p.run pins s σ H Q I (h σ H Q w)⟩
theorem _root_.L2.PI.imp {X : Cx} {tg e : Expr} {t t' : TI} (p : PI X tg e t) (h : ∀ σ H Q, t' σ H Q → t σ H Q) : PI X tg e t' := ⟨fun pins s σ H Q I w => p.run pins s σ H Q I (h σ H Q w)⟩
theorem _root_.L2.OpR.imp {X : Cx} {f : Value → Value → Sem Value} {r r' : R2} (p : OpR X f r) (h : ∀ x y H Q, r' x y H Q → r x y H Q) : OpR X f r' := fun pins s σ H x y v u Q I rx ry w => p pins s σ H x y v u Q I rx ry (h x y H Q w)
theorem _root_.L2.UnR.imp {X : Cx} {f : Value → Sem Value} {r r' : V → Hp → VK → Prop} (p : UnR X f r) (h : ∀ x H Q, r' x H Q → r x H Q) : UnR X f r' := fun pins s σ H x v Q I rx w => p pins s σ H x v Q I rx (h x H Q w)
theorem _root_.L2.CallR.imp {X : Cx} {f : Value} {r r' : List V → Hp → VK → Prop} (p : CallR X f r) (h : ∀ x H Q, r' x H Q → r x H Q) : CallR X f r' := fun pins s σ H x v Q I rx w => p pins s σ H x v Q I rx (h x H Q w)
theorem _root_.L2.IxR.imp {X : Cx} {r r' : R2} (p : IxR X r) (h : ∀ x y H Q, r' x y H Q → r x y H Q) : IxR X r' := fun value slice pins s σ H x y v u Q I rx ry w hs => p value slice pins s σ H x y v u Q I rx ry (h x y H Q w) hs

def eVar (i : Nat) : FE := fun δ => M.of (gt δ i)
def eC (d : D) : FE := fun _ => M.ret d
def e2 (o : D → D → Option D) (f g : FE) : FE := fun δ => (f δ).bd fun a => (g δ).bd fun b => M.of (o a b)
def e1 (o : D → Option D) (f : FE) : FE := fun δ => (f δ).bd fun a => M.of (o a)
def eAs0 : Ev → M (List D) := fun _ => M.ret []
def eAs (f : FE) (g : Ev → M (List D)) : Ev → M (List D) := fun δ => (f δ).bd fun a => (g δ).bd fun b => M.ret (a :: b)
def eTup (g : Ev → M (List D)) : FE := fun δ => (g δ).bd fun ds => M.of (if ds.length ≤ 1000000 then some (.tup ds) else none)
def eLst (g : Ev → M (List D)) : FE := fun δ => (g δ).bd fun ds => M.of (if ds.length ≤ 1000000 then some (.lst ds) else none)
def eIf (c : Ev → M Bool) (f g : FE) : FE := fun δ => (c δ).bd fun b => if b = true then f δ else g δ
/-- a value's operation over data: the source and what stands is kept -/
def rD2 (o : D → D → Option D) : R2 := fun x y H Q => ∃ S a b d La Lb, S.tr H ∧ Rp S H x a La ∧ Rp S H y b Lb ∧ o a b = some d ∧ ∀ v H' L, HE0 H H' → Rp S H' v d L → Q v H'
def rD1 (o : D → Option D) : V → Hp → VK → Prop := fun x H Q => ∃ S a d La, S.tr H ∧ Rp S H x a La ∧ o a = some d ∧ ∀ v H' L, HE0 H H' → Rp S H' v d L → Q v H'
def rDs (o : List D → Option D) : List V → Hp → VK → Prop := fun xs H Q => ∃ S ds d La, S.tr H ∧ Rps S H xs ds La ∧ o ds = some d ∧ ∀ v H' L, HE0 H H' → Rp S H' v d L → Q v H'

theorem size_ok {n : Nat} (h : n ≤ 1000000) : n ≤ sizeLine := by rw [sizeLine_eq]; omega

section
variable {X : Cx} {a b c : Expr} {f g h : FE} {pos : Pos}
theorem d_var (i : Nat) {x : Str} {pos : Pos} (hN : X.N[i]? = some x := by rfl) (hv : Vis X.env.scope x := by first | exact Or.inl rfl | exact Or.inr (Or.inl rfl) | exact Or.inr (Or.inr rfl)) (hd : (x == ("__debug__" : Str)) = false := by decide)
    (hcd : (x == ("__classdict__" : Str)) = false := by decide) : DE X (.Name x pos) (eVar i) := (pe_var hN hv hd hcd).imp fun σ H Q ⟨S, δ, st, d, st', rs, so, e, q⟩ => by
  obtain ⟨e1, e2⟩ := of_inv e
  subst e2
  obtain ⟨v, L, h1, h2⟩ := rs.at_ i d e1
  exact ⟨v, h1, q v H L HE.refl so h2⟩
theorem d_const {d : D} {v : V} {e : Expr} (p : PE X e (tC v)) (r : ∀ S H, Rp S H v d []) : DE X e (eC d) := p.imp fun σ H Q ⟨S, δ, st, d', st', rs, so, e, q⟩ => by
  obtain ⟨e1, e2⟩ := ret_inv e
  subst e1 e2
  exact q v H [] HE.refl so (r S H)
theorem d_int {i j pos} : DE X (.Constant (.int i) j pos) (eC (.int i)) := d_const pe_int fun _ _ => .int i
theorem d_bl {b j pos} : DE X (.Constant (.bool b) j pos) (eC (.bl b)) := d_const pe_bl fun _ _ => .bl b
theorem d_non {j pos} : DE X (.Constant .none j pos) (eC .non) := d_const pe_non fun _ _ => .non
theorem d_str {x j pos} : DE X (.Constant (.str x) j pos) (eC (.str x)) := d_const pe_str fun _ _ => .str x
/-- a module's constant -/
theorem d_glob {x : Str} {v : V} {d : D} {u : Value} {pos : Pos} (hg : Gl X x) (hm : X.mg x = some u) (r : RelV v u) (rd : ∀ S H, Rp S H v d []) (hd : (x == ("__debug__" : Str)) = false := by decide) : DE X (.Name x pos) (eC d) := d_const (pe_glob hg hm r hd) rd

theorem t2_imp {o : D → D → Option D} : ∀ σ H Q, tD (e2 o f g) σ H Q → tOp (rD2 o) (tD f) (tD g) σ H Q := fun σ H Q ⟨S, δ, st, d, st', rs, so, e, q⟩ => by
  obtain ⟨x, s1, ea, e⟩ := bd_inv e
  obtain ⟨y, s2, eb, e⟩ := bd_inv e
  obtain ⟨eo, es⟩ := of_inv e
  subst es
  refine ⟨S, δ, st, x, s1, rs, so, ea, fun v H1 L1 x1 so1 r1 => ⟨S, δ, s1, y, _, rs.extS x1, so1, eb, fun w H2 L2 x2 so2 r2 => ⟨S, x, y, d, L1, L2, so2.tr, r1.extS x2, r2, eo, fun z H3 L3 x3 r3 => q z H3 L3 (x1.trans (x2.trans x3.up0)) (so2.ext0 x3) r3⟩⟩⟩
theorem d_op {op : Operator} {o : D → D → Option D} (ho : OpR X (binaryOp op) (rD2 o)) (ha : DE X a f) (hb : DE X b g) : DE X (.BinOp a op b pos) (e2 o f g) := (pe_op ho ha hb).imp t2_imp
theorem d_ix {o : D → D → Option D} (ho : IxR X (rD2 o)) (ha : DE X a f) (hb : DE X b g) (hs : PlainIx b := by intro _ _; rfl) : DE X (.Subscript a b pos) (e2 o f g) := (pe_ix ho ha hb hs).imp t2_imp
theorem d_cmp {op : CmpOp} {o : D → D → Option D} (ho : OpR X (compareOp op) (rD2 o)) (ha : DE X a f) (hb : DE X b g) (hm : behindInMarks op b = false := by first | exact nomark _ | rfl) : DE X (.Compare a [op] [b] pos) (e2 o f g) := (pe_cmpR ho ha hb hm).imp t2_imp
theorem d_un {op : UnaryOp} {o : D → Option D} (ho : UnR X (unaryOp op) (rD1 o)) (ha : DE X a f) : DE X (.UnaryOp op a pos) (e1 o f) := (pe_un ho ha).imp fun σ H Q ⟨S, δ, st, d, st', rs, so, e, q⟩ => by
  obtain ⟨x, s1, ea, e⟩ := bd_inv e
  obtain ⟨eo, es⟩ := of_inv e
  subst es
  exact ⟨S, δ, st, x, _, rs, so, ea, fun v H1 L1 x1 so1 r1 => ⟨S, x, d, L1, so1.tr, r1, eo, fun z H3 L3 x3 r3 => q z H3 L3 (x1.trans x3.up0) (so1.ext0 x3) r3⟩⟩

/-! tests -/
/-- a bool as a test -/
def bOf (f : FE) : Ev → M Bool := fun δ => (f δ).bd fun d => M.of (match d with | .bl k => some k | _ => none)
theorem bOf_inv {f : FE} {δ : Ev} {st st' : Src} {k : Bool} (h : bOf f δ st = some (k, st')) : f δ st = some (.bl k, st') := by
  obtain ⟨d, s1, ea, e⟩ := bd_inv h
  obtain ⟨eo, es⟩ := of_inv e
  subst es
  cases d <;> simp at eo
  subst eo
  exact ea
theorem tB_of {f : FE} : ∀ σ H Q, tBo (bOf f) σ H Q → tTest (tD f) σ H Q := fun σ H Q ⟨S, δ, st, d, st', rs, so, e, q⟩ => by
  refine ⟨S, δ, st, _, st', rs, so, bOf_inv e, fun v H1 L1 x1 so1 r1 => ?_⟩
  cases r1
  exact ⟨d, rfl, q H1 x1 so1⟩
theorem dt_cmp {op : CmpOp} {o : D → D → Option D} (ho : OpR X (compareOp op) (rD2 o)) (ha : DE X a f) (hb : DE X b g) (hm : behindInMarks op b = false := by first | exact nomark _ | rfl) : DT X (.Compare a [op] [b] pos) (bOf (e2 o f g)) :=
  (pt_cmpR ho ha hb hm).imp fun σ H Q w => by
    obtain ⟨S, δ, st, d, st', rs, so, e, q⟩ := tB_of σ H Q w
    exact t2_imp σ H _ ⟨S, δ, st, d, st', rs, so, e, q⟩
theorem dt_val {e : Expr} (he : DE X e f) (h : ∀ whole, isTrue e X.env whole = (do let v ← whole; standAt e.pos; holding [v] (truthy v)) := by intro _; rfl) : DT X e (bOf f) :=
  (pt_val he h).imp fun σ H Q w => tB_of σ H Q w
/-- truth of data -/
def truD : D → Option Bool
  | .non => some false
  | .bl b => some b
  | .int i => some (i != 0)
  | .tup xs => some (!xs.isEmpty)
  | .lst xs => some (!xs.isEmpty)
  | .tupk xs => some (!xs.isEmpty)
  | _ => none
theorem Rps.isEmpty {S : Sr} {H : Hp} {vs : List V} {ds : List D} {L : List Addr} (r : Rps S H vs ds L) : vs.isEmpty = ds.isEmpty := by
  cases r <;> rfl
theorem truD_ok {K : PySem.W.Frag} {S : Sr} {H : Hp} {v : V} {d : D} {L : List Addr} {k : Bool} (r : Rp S H v d L) (h : truD d = some k) : TruV K v H k := by
  cases r with
  | non => cases h; rfl
  | bl => cases h; rfl
  | int => cases h; rfl
  | str => cases h
  | src => cases h
  | dct => cases h
  | rng => cases h
  | tup e rs =>
    have : k = !_ := (Option.some.inj h).symm
    exact .inr (.inl ⟨_, .inl e, by rw [rs.isEmpty]; exact this⟩)
  | tupk e _ rs =>
    have : k = !_ := (Option.some.inj h).symm
    exact .inr (.inl ⟨_, .inl (.inr ⟨_, e⟩), by rw [rs.isEmpty]; exact this⟩)
  | lst e n rs =>
    have : k = !_ := (Option.some.inj h).symm
    exact .inl ⟨_, SqL.of e, by rw [rs.isEmpty]; exact this⟩
def bTr (f : FE) : Ev → M Bool := fun δ => (f δ).bd fun d => M.of (truD d)
theorem dt_tr {e : Expr} (he : DE X e f) (h : ∀ whole, isTrue e X.env whole = (do let v ← whole; standAt e.pos; holding [v] (truthy v)) := by intro _; rfl) : DT X e (bTr f) :=
  (pt_truth he h).imp fun σ H Q ⟨S, δ, st, d, st', rs, so, e, q⟩ => by
    obtain ⟨x, s1, ea, e⟩ := bd_inv e
    obtain ⟨eo, es⟩ := of_inv e
    subst es
    exact ⟨S, δ, st, x, _, rs, so, ea, fun v H1 L1 x1 so1 r1 => ⟨d, truD_ok r1 eo, q H1 x1 so1⟩⟩
def bAnd (f g : Ev → M Bool) : Ev → M Bool := fun δ => (f δ).bd fun k => if k = true then g δ else M.ret false
def bOr (f g : Ev → M Bool) : Ev → M Bool := fun δ => (f δ).bd fun k => if k = true then M.ret true else g δ
def bNot (f : Ev → M Bool) : Ev → M Bool := fun δ => (f δ).bd fun k => M.ret (!k)
variable {p q : Ev → M Bool} {rest : List Expr}
theorem dw_and1 (ha : DT X a p) : DW X (.BoolOp .And [a] pos) p := pw_and1 ha
theorem dw_or1 (ha : DT X a p) : DW X (.BoolOp .Or [a] pos) p := pw_or1 ha
theorem dw_and (ha : DT X a p) (hb : DW X (.BoolOp .And (b :: rest) pos) q) : DW X (.BoolOp .And (a :: b :: rest) pos) (bAnd p q) := (pw_and ha hb).imp fun σ H Q ⟨S, δ, st, d, st', rs, so, e, w⟩ => by
  obtain ⟨x, s1, ea, e⟩ := bd_inv e
  refine ⟨S, δ, st, x, s1, rs, so, ea, fun H1 x1 so1 => ?_⟩
  cases x with
  | true =>
    rw [if_pos rfl] at e ⊢
    exact ⟨S, δ, s1, d, st', rs.extS x1, so1, e, fun H2 x2 so2 => w H2 (x1.trans x2) so2⟩
  | false =>
    rw [if_neg Bool.false_ne_true] at e ⊢
    obtain ⟨e1, e2⟩ := ret_inv e
    subst e1 e2
    exact w H1 x1 so1
theorem dw_or (ha : DT X a p) (hb : DW X (.BoolOp .Or (b :: rest) pos) q) : DW X (.BoolOp .Or (a :: b :: rest) pos) (bOr p q) := (pw_or ha hb).imp fun σ H Q ⟨S, δ, st, d, st', rs, so, e, w⟩ => by
  obtain ⟨x, s1, ea, e⟩ := bd_inv e
  refine ⟨S, δ, st, x, s1, rs, so, ea, fun H1 x1 so1 => ?_⟩
  cases x with
  | true =>
    rw [if_pos rfl] at e ⊢
    obtain ⟨e1, e2⟩ := ret_inv e
    subst e1 e2
    exact w H1 x1 so1
  | false =>
    rw [if_neg Bool.false_ne_true] at e ⊢
    exact ⟨S, δ, s1, d, st', rs.extS x1, so1, e, fun H2 x2 so2 => w H2 (x1.trans x2) so2⟩
theorem dt_not (ha : DT X a p) : DT X (.UnaryOp .Not a pos) (bNot p) := (pt_not ha).imp fun σ H Q ⟨S, δ, st, d, st', rs, so, e, w⟩ => by
  obtain ⟨x, s1, ea, e⟩ := bd_inv e
  obtain ⟨e1, e2⟩ := ret_inv e
  subst e1 e2
  exact ⟨S, δ, st, x, _, rs, so, ea, fun H1 x1 so1 => w H1 x1 so1⟩
/-- and, or, not as values of bools -/
def eAnd (f g : FE) : FE := fun δ => (f δ).bd fun d => match d with | .bl true => g δ | .bl false => M.ret (.bl false) | _ => M.no
def eOr (f g : FE) : FE := fun δ => (f δ).bd fun d => match d with | .bl true => M.ret (.bl true) | .bl false => g δ | _ => M.no
def eNot (f : FE) : FE := e1 (fun d => match d with | .bl k => some (.bl (!k)) | _ => none) f
theorem d_one {op} (h : DE X a f) : DE X (.BoolOp op [a] pos) f := pe_one h
theorem d_and (ha : DE X a f) (hb : DE X (.BoolOp .And (b :: rest) pos) g) : DE X (.BoolOp .And (a :: b :: rest) pos) (eAnd f g) := (pe_and ha hb).imp fun σ H Q ⟨S, δ, st, d, st', rs, so, e, w⟩ => by
  obtain ⟨x, s1, ea, e⟩ := bd_inv e
  refine ⟨S, δ, st, x, s1, rs, so, ea, fun v H1 L1 x1 so1 r1 => ?_⟩
  cases x with
  | bl k =>
    cases r1
    refine ⟨k, rfl, ?_⟩
    cases k with
    | true =>
      rw [if_pos rfl]
      exact ⟨S, δ, s1, d, st', rs.extS x1, so1, e, fun v H2 L x2 so2 r => w v H2 L (x1.trans x2) so2 r⟩
    | false =>
      rw [if_neg Bool.false_ne_true]
      obtain ⟨e1, e2⟩ := ret_inv e
      subst e1 e2
      exact w _ H1 [] x1 so1 (.bl false)
  | _ => cases e
theorem d_or (ha : DE X a f) (hb : DE X (.BoolOp .Or (b :: rest) pos) g) : DE X (.BoolOp .Or (a :: b :: rest) pos) (eOr f g) := (pe_or ha hb).imp fun σ H Q ⟨S, δ, st, d, st', rs, so, e, w⟩ => by
  obtain ⟨x, s1, ea, e⟩ := bd_inv e
  refine ⟨S, δ, st, x, s1, rs, so, ea, fun v H1 L1 x1 so1 r1 => ?_⟩
  cases x with
  | bl k =>
    cases r1
    refine ⟨k, rfl, ?_⟩
    cases k with
    | false =>
      rw [if_neg Bool.false_ne_true]
      exact ⟨S, δ, s1, d, st', rs.extS x1, so1, e, fun v H2 L x2 so2 r => w v H2 L (x1.trans x2) so2 r⟩
    | true =>
      rw [if_pos rfl]
      obtain ⟨e1, e2⟩ := ret_inv e
      subst e1 e2
      exact w _ H1 [] x1 so1 (.bl true)
  | _ => cases e
theorem d_not (ha : DE X a f) : DE X (.UnaryOp .Not a pos) (eNot f) := (pe_not ha).imp fun σ H Q ⟨S, δ, st, d, st', rs, so, e, w⟩ => by
  obtain ⟨x, s1, ea, e⟩ := bd_inv e
  obtain ⟨eo, es⟩ := of_inv e
  subst es
  refine ⟨S, δ, st, x, _, rs, so, ea, fun v H1 L1 x1 so1 r1 => ?_⟩
  cases x with
  | bl k =>
    cases r1
    have : D.bl (!k) = d := Option.some.inj eo
    subst this
    exact ⟨k, rfl, w _ H1 [] x1 so1 (.bl _)⟩
  | _ => cases eo
theorem d_if {c : Expr} (hc : DT X c p) (ha : DE X a f) (hb : DE X b g) : DE X (.IfExp c a b pos) (eIf p f g) := (pe_ifExp hc ha hb).imp fun σ H Q ⟨S, δ, st, d, st', rs, so, e, w⟩ => by
  obtain ⟨x, s1, ea, e⟩ := bd_inv e
  refine ⟨S, δ, st, x, s1, rs, so, ea, fun H1 x1 so1 => ?_⟩
  cases x with
  | true =>
    rw [if_pos rfl] at e ⊢
    exact ⟨S, δ, s1, d, st', rs.extS x1, so1, e, fun v H2 L x2 so2 r => w v H2 L (x1.trans x2) so2 r⟩
  | false =>
    rw [if_neg Bool.false_ne_true] at e ⊢
    exact ⟨S, δ, s1, d, st', rs.extS x1, so1, e, fun v H2 L x2 so2 r => w v H2 L (x1.trans x2) so2 r⟩

/-! displays -/
variable {es : List Expr} {fs : Ev → M (List D)}
theorem da_nil : DA X [] eAs0 := pa_nil.imp fun σ H Q ⟨S, δ, st, ds, st', rs, so, e, w⟩ => by
  obtain ⟨e1, e2⟩ := ret_inv e
  subst e1 e2
  exact w [] H [] HE.refl so .nil
theorem da_cons (ha : DE X a f) (hr : DA X es fs) (hs : starEach (a :: es) X.env = (false, eval a X.env) :: starEach es X.env := by rfl) : DA X (a :: es) (eAs f fs) := (pa_cons ha hr hs).imp fun σ H Q ⟨S, δ, st, ds, st', rs, so, e, w⟩ => by
  obtain ⟨x, s1, ea, e⟩ := bd_inv e
  obtain ⟨y, s2, eb, e⟩ := bd_inv e
  obtain ⟨e1, e2⟩ := ret_inv e
  subst e1 e2
  exact ⟨S, δ, st, x, s1, rs, so, ea, fun v H1 L1 x1 so1 r1 => ⟨S, δ, s1, y, _, rs.extS x1, so1, eb, fun vs H2 L2 x2 so2 r2 => w (v :: vs) H2 _ (x1.trans x2) so2 (.cons (r1.extS x2) r2)⟩⟩
theorem d_tup {x1} (h : DA X es fs) : DE X (.Tuple es x1 pos) (eTup fs) := (pe_tup h).imp fun σ H Q ⟨S, δ, st, d, st', rs, so, e, w⟩ => by
  obtain ⟨ds, s1, ea, e⟩ := bd_inv e
  obtain ⟨eo, es'⟩ := of_inv e
  subst es'
  by_cases hz : ds.length ≤ 1000000
  · rw [if_pos hz] at eo
    have : D.tup ds = d := Option.some.inj eo
    subst this
    refine ⟨S, δ, st, ds, _, rs, so, ea, fun vs H1 L1 x1 so1 r1 => ⟨size_ok (by rw [r1.len]; exact hz), fun p np => ?_⟩⟩
    have he : HE0 H1 (upd H1 p (.tup vs)) := HE.fresh np
    exact w (.ref p) _ L1 (x1.trans he.up0) (so1.ext0 he) (.tup (.inl upd_same) (r1.ext0 he))
  · rw [if_neg hz] at eo; cases eo
theorem d_lst (h : DA X es fs) : DE X (.List es pos) (eLst fs) := (pe_lst h).imp fun σ H Q ⟨S, δ, st, d, st', rs, so, e, w⟩ => by
  obtain ⟨ds, s1, ea, e⟩ := bd_inv e
  obtain ⟨eo, es'⟩ := of_inv e
  subst es'
  by_cases hz : ds.length ≤ 1000000
  · rw [if_pos hz] at eo
    have : D.lst ds = d := Option.some.inj eo
    subst this
    refine ⟨S, δ, st, ds, _, rs, so, ea, fun vs H1 L1 x1 so1 r1 => ⟨size_ok (by rw [r1.len]; exact hz), fun p np => ?_⟩⟩
    have he : HE0 H1 (upd H1 p (.lst vs)) := HE.fresh np
    exact w (.ref p) _ (p :: L1) (x1.trans he.up0) (so1.ext0 he) (.lst upd_same (fun z => so1.tr _ z np) (r1.ext0 he))
  · rw [if_neg hz] at eo; cases eo
end
end DL
set_option Elab.async false
set_option linter.all false
set_option maxRecDepth 100000
set_option maxHeartbeats 4000000
/-! DL2: operations over data: arithmetic, comparisons, subscripts, slices, built-in calls. -/
namespace DL
open PySem PySem.Spec PyProof.Rows L2

/-! ### the operations -/
def dAdd : D → D → Option D
  | .int i, .int j => some (.int (i + j))
  | .tup xs, .tup ys => if xs.length + ys.length ≤ 1000000 then some (.tup (xs ++ ys)) else none
  | .lst xs, .lst ys => if xs.length + ys.length ≤ 1000000 then some (.lst (xs ++ ys)) else none
  | _, _ => none
def dSub : D → D → Option D
  | .int i, .int j => some (.int (i - j))
  | _, _ => none
def mulC (i j : Int) : Bool := decide (i.natAbs < 2 ^ 64) || decide (j.natAbs < 2 ^ 64) || decide (i.natAbs.log2 + j.natAbs.log2 < 1000000)
def dMul : D → D → Option D
  | .int i, .int j => if mulC i j = true then some (.int (i * j)) else none
  | .lst xs, .int k => if -1000 ≤ k ∧ k ≤ 1000 ∧ xs.length ≤ 1000 ∧ lfs xs = true then some (.lst (List.replicate k.toNat xs).flatten) else none
  | _, _ => none
def dDiv : D → D → Option D
  | .int i, .int j => if 0 < j ∧ j.natAbs.log2 < 9000 then some (.int (i / j)) else none
  | _, _ => none
def dMod : D → D → Option D
  | .int i, .int j => if 0 < j then some (.int (i % j)) else none
  | _, _ => none
def dPow : D → D → Option D
  | .int i, .int j => if 0 ≤ j ∧ j ≤ 1000 ∧ i.natAbs < 2 ^ 64 then some (.int (i ^ j.toNat)) else none
  | _, _ => none
def dNeg : D → Option D
  | .int i => some (.int (-i))
  | _ => none
def dLt : D → D → Option D
  | .int i, .int j => some (.bl (decide (i < j)))
  | _, _ => none
def dLe : D → D → Option D
  | .int i, .int j => some (.bl (decide (i ≤ j)))
  | _, _ => none
def dGt : D → D → Option D
  | .int i, .int j => some (.bl (decide (j < i)))
  | _, _ => none
def dGe : D → D → Option D
  | .int i, .int j => some (.bl (decide (j ≤ i)))
  | _, _ => none

mutual
def D.py : D → PyData
  | .non => .none
  | .bl b => .bool b
  | .int i => .int i
  | .str x => .str x
  | .tup xs => .tuple (pys xs)
  | .lst xs => .list (pys xs)
  | .src => .none
  | .dct _ => .none
  | .rng _ _ => .none
  | .tupk xs => .tuple (pys xs)
def pys : List D → List PyData
  | [] => []
  | d :: ds => d.py :: pys ds
end
/-- data without the source, texts of signs, at most n deep -/
def dOk : Nat → D → Bool
  | _, .non => true
  | _, .bl _ => true
  | _, .int _ => true
  | _, .str x => PyData.strOk x
  | 0, .tup _ => false
  | 0, .lst _ => false
  | 0, .tupk _ => false
  | n + 1, .tupk xs => xs.all (dOk n)
  | n + 1, .tup xs => xs.all (dOk n)
  | n + 1, .lst xs => xs.all (dOk n)
  | _, .src => false
  | _, .dct _ => false
  | _, .rng _ _ => false
theorem dOk_ok : ∀ (n : Nat) (d : D), dOk n d = true → d.py.canLay0 = true ∧ d.py.depth ≤ n := by
  intro n
  induction n with
  | zero => intro d h; cases d <;> simp_all [dOk, D.py, PyData.canLay0, PyData.depth]
  | succ n ih =>
    have all : ∀ xs : List D, xs.all (dOk n) = true → PyData.canLayAll0 (pys xs) = true ∧ PyData.depthAll (pys xs) ≤ n := by
      intro xs
      induction xs with
      | nil => intro _; simp [pys, PyData.canLayAll0, PyData.depthAll]
      | cons x xs ih2 =>
        intro h
        rw [List.all_cons, Bool.and_eq_true] at h
        obtain ⟨a1, a2⟩ := ih x h.1
        obtain ⟨b1, b2⟩ := ih2 h.2
        simp [pys, PyData.canLayAll0, PyData.depthAll, a1, b1]
        omega
    intro d h
    cases d with
    | tup xs =>
      obtain ⟨a, b⟩ := all xs (by simpa [dOk] using h)
      simp [D.py, PyData.canLay0, PyData.depth, a]; omega
    | lst xs =>
      obtain ⟨a, b⟩ := all xs (by simpa [dOk] using h)
      simp [D.py, PyData.canLay0, PyData.depth, a]; omega
    | tupk xs =>
      obtain ⟨a, b⟩ := all xs (by simpa [dOk] using h)
      simp [D.py, PyData.canLay0, PyData.depth, a]; omega
    | _ => simp_all [dOk, D.py, PyData.canLay0, PyData.depth]
theorem dOk_shaped {d : D} (h : dOk 8 d = true) : SeqAt.shaped d.py = true := by
  obtain ⟨a, b⟩ := dOk_ok 8 d h
  unfold SeqAt.shaped
  rw [a, Bool.true_and]
  exact decide_eq_true (by omega)
mutual
theorem Rp.dp {K : PySem.W.Frag} {S : Sr} {H : Hp} {v : V} {d : D} {L : List Addr} (r : Rp S H v d L) (n : Nat) (h : dOk n d = true) : Dp K H v d.py := by
  cases r with
  | non => rw [D.py]; exact .non
  | bl b => rw [D.py]; exact .bl b
  | int i => rw [D.py]; exact .int i
  | str x => rw [D.py]; exact .str x
  | src => simp [dOk] at h
  | dct => simp [dOk] at h
  | rng => simp [dOk] at h
  | tup e rs =>
    rw [D.py]
    cases n with
    | zero => simp [dOk] at h
    | succ n => exact .tup ((.inl e)) (rs.dp n (by simpa [dOk] using h))
  | tupk e _ rs =>
    rw [D.py]
    cases n with
    | zero => simp [dOk] at h
    | succ n => exact .tup (.inl (.inr ⟨_, e⟩)) (rs.dp n (by simpa [dOk] using h))
  | lst e _ rs =>
    rw [D.py]
    cases n with
    | zero => simp [dOk] at h
    | succ n => exact .lst (SqL.of e) (rs.dp n (by simpa [dOk] using h))
theorem Rps.dp {K : PySem.W.Frag} {S : Sr} {H : Hp} {vs : List V} {ds : List D} {L : List Addr} (r : Rps S H vs ds L) (n : Nat) (h : ∀ x ∈ ds, dOk n x = true) : DpAll K H vs (pys ds) := by
  cases r with
  | nil => rw [pys]; exact .nil
  | cons r rs =>
    rw [pys]
    exact .cons (r.dp n (h _ List.mem_cons_self)) (rs.dp n fun x hx => h x (List.mem_cons_of_mem _ hx))
end
def D.eqv (a b : D) : Bool := PyData.eqv a.py b.py
def dEq (a b : D) : Option D := if (dOk 8 a && dOk 8 b) = true then some (.bl (a.eqv b)) else none
def dNe (a b : D) : Option D := if (dOk 8 a && dOk 8 b) = true then some (.bl (!a.eqv b)) else none
def D.isNon : D → Bool
  | .non => true
  | _ => false
def dIs : D → D → Option D
  | a, .non => some (.bl a.isNon)
  | .bl a, .bl b => some (.bl (decide (a = b)))
  | _, _ => none
def dIsN : D → D → Option D
  | a, .non => some (.bl (!a.isNon))
  | .bl a, .bl b => some (.bl (!decide (a = b)))
  | _, _ => none
def flatD : D → Bool
  | .non => true
  | .bl _ => true
  | .int _ => true
  | .str _ => true
  | _ => false
def eqF : D → D → Bool
  | .non, .non => true
  | .bl a, .bl b => a == b
  | .bl a, .int b => (if a then 1 else 0) == b
  | .int a, .bl b => a == (if b then 1 else 0)
  | .int a, .int b => a == b
  | .str a, .str b => a == b
  | _, _ => false
def D.items : D → Option (List D)
  | .tup xs => some xs
  | .lst xs => some xs
  | .tupk xs => some xs
  | _ => none
def inD (x : D) (xs : List D) : Bool := xs.any fun y => eqF y x
def dIn (a b : D) : Option D := b.items.bind fun xs => if (flatD a && xs.all flatD) = true then some (.bl (inD a xs)) else none
def dNotIn (a b : D) : Option D := b.items.bind fun xs => if (flatD a && xs.all flatD) = true then some (.bl (!inD a xs)) else none
def dIx (a b : D) : Option D := match b with
  | .int i => a.items.bind fun xs => atI xs i
  | _ => none

theorem Rp.flat {S : Sr} {H : Hp} {v : V} {d : D} {L : List Addr} (r : Rp S H v d L) (h : flatD d = true) : flatV v = true := by
  cases r <;> simp_all [flatD, flatV]
theorem Rps.flats {S : Sr} {H : Hp} {vs : List V} {ds : List D} {L : List Addr} (r : Rps S H vs ds L) (h : ds.all flatD = true) : vs.all flatV = true := by
  induction ds generalizing vs L with
  | nil => cases r; rfl
  | cons d ds ih =>
    cases r with
    | cons r rs =>
      rw [List.all_cons, Bool.and_eq_true] at h
      rw [List.all_cons, r.flat h.1, ih rs h.2]; rfl
theorem Rp.eqF {S : Sr} {H : Hp} {v u : V} {d e : D} {L L' : List Addr} (r : Rp S H v d L) (r' : Rp S H u e L') (h : flatD d = true) (h' : flatD e = true) : eqV v u = eqF d e := by
  cases r <;> cases r' <;> simp_all [flatD, eqV, DL.eqF]
theorem Rps.inD {S : Sr} {H : Hp} {u : V} {e : D} {L' : List Addr} (r' : Rp S H u e L') (h' : flatD e = true) {vs : List V} {ds : List D} {L : List Addr} (r : Rps S H vs ds L) (h : ds.all flatD = true) : inV u vs = inD e ds := by
  induction ds generalizing vs L with
  | nil => cases r; rfl
  | cons d ds ih =>
    cases r with
    | cons r rs =>
      rw [List.all_cons, Bool.and_eq_true] at h
      have := ih rs h.2
      unfold inV DL.inD at *
      rw [List.any_cons, List.any_cons, this, r.eqF r' h.1 h']
theorem Rp.items {S : Sr} {H : Hp} {v : V} {d : D} {L : List Addr} {xs : List D} (r : Rp S H v d L) (h : d.items = some xs) : ∃ p vs L', v = .ref p ∧ (Rd H p (.lst vs) ∨ Rd H p (.tup vs)) ∧ Rps S H vs xs L' := by
  cases r with
  | tup e rs => cases h; exact ⟨_, _, _, rfl, .inr e, rs⟩
  | lst e _ rs => cases h; exact ⟨_, _, _, rfl, .inl (.inl e), rs⟩
  | tupk e _ rs => cases h; exact ⟨_, _, _, rfl, .inr (.inr ⟨_, e⟩), rs⟩
  | _ => cases h
theorem Rps.repl {S : Sr} {H : Hp} {vs : List V} {ds : List D} (r : Rps S H vs ds []) : ∀ n : Nat, Rps S H (List.replicate n vs).flatten (List.replicate n ds).flatten []
  | 0 => by simpa using Rps.nil
  | n + 1 => by
    rw [List.replicate_succ, List.flatten_cons, List.replicate_succ, List.flatten_cons]
    exact r.append (Rps.repl r n)

section
variable {X : Cx}
theorem o_add : OpR X (binaryOp .Add) (rD2 dAdd) := (op_add.or (op_catA.or op_cat)).imp fun x y H Q ⟨S, a, b, d, La, Lb, hn, ra, rb, e, q⟩ => by
  cases a with
  | int i =>
    cases b with
    | int j =>
      cases e
      obtain ⟨rfl, rfl⟩ := ra.iint
      obtain ⟨rfl, rfl⟩ := rb.iint
      exact .inl ⟨i, j, rfl, rfl, q _ _ _ HE.refl (.int _)⟩
    | _ => cases e
  | tup xs =>
    cases b with
    | tup ys =>
      obtain ⟨a, vs, rfl, ea, rsa⟩ := ra.itup
      obtain ⟨b, ws, rfl, eb, rsb⟩ := rb.itup
      have e : (if xs.length + ys.length ≤ 1000000 then some (D.tup (xs ++ ys)) else none) = some d := e
      by_cases hz : xs.length + ys.length ≤ 1000000
      · rw [if_pos hz] at e
        cases e
        refine .inr (.inl ⟨_, _, _, _, rfl, rfl, (.inl ea), (.inl eb), size_ok (by rw [rsa.len, rsb.len]; exact hz), fun h0 => ?_, fun _ h0 => ?_, fun _ _ p np => ?_⟩)
        · subst h0
          have hx : xs = [] := List.length_eq_zero_iff.mp rsa.len.symm
          subst hx
          exact q _ _ _ HE.refl (.tup eb rsb)
        · subst h0
          have hx : ys = [] := List.length_eq_zero_iff.mp rsb.len.symm
          subst hx
          exact q _ _ _ HE.refl (.tup ea (by simpa using rsa))
        · exact q _ _ _ (HE.fresh np) (.tup (.inl upd_same) ((rsa.append rsb).ext0 (HE.fresh np)))
      · rw [if_neg hz] at e; cases e
    | _ => cases e
  | lst xs =>
    cases b with
    | lst ys =>
      obtain ⟨a, vs, L1, rfl, ea, na, rsa, rfl⟩ := ra.ilst
      obtain ⟨b, ws, L2, rfl, eb, nb, rsb, rfl⟩ := rb.ilst
      have e : (if xs.length + ys.length ≤ 1000000 then some (D.lst (xs ++ ys)) else none) = some d := e
      by_cases hz : xs.length + ys.length ≤ 1000000
      · rw [if_pos hz] at e
        cases e
        refine .inr (.inr ⟨_, _, _, _, rfl, rfl, ea, eb, size_ok (by rw [rsa.len, rsb.len]; exact hz), fun p np => ?_⟩)
        exact q _ _ _ (HE.fresh np) (.lst upd_same (fun z => hn _ z np) ((rsa.append rsb).ext0 (HE.fresh np)))
      · rw [if_neg hz] at e; cases e
    | _ => cases e
  | _ => cases e
theorem o_ints {f : Value → Value → Sem Value} {g : Int → Int → V} {o : D → D → Option D} {gD : Int → Int → D} (h : OpR X f (rI0 g)) (ho : ∀ a b d, o a b = some d → ∃ i j, a = .int i ∧ b = .int j ∧ d = gD i j)
    (hg : ∀ S H i j, Rp S H (g i j) (gD i j) []) : OpR X f (rD2 o) := h.imp fun x y H Q ⟨S, a, b, d, La, Lb, hn, ra, rb, e, q⟩ => by
  obtain ⟨i, j, rfl, rfl, rfl⟩ := ho _ _ _ e
  obtain ⟨rfl, rfl⟩ := ra.iint
  obtain ⟨rfl, rfl⟩ := rb.iint
  exact ⟨i, j, rfl, rfl, q _ _ _ HE.refl (hg S H i j)⟩
theorem o_intsC {f : Value → Value → Sem Value} {C : Int → Int → Prop} {g : Int → Int → V} {o : D → D → Option D} {gD : Int → Int → D} (h : OpR X f (rI C g)) (ho : ∀ a b d, o a b = some d → ∃ i j, a = .int i ∧ b = .int j ∧ C i j ∧ d = gD i j)
    (hg : ∀ S H i j, Rp S H (g i j) (gD i j) []) : OpR X f (rD2 o) := h.imp fun x y H Q ⟨S, a, b, d, La, Lb, hn, ra, rb, e, q⟩ => by
  obtain ⟨i, j, rfl, rfl, c, rfl⟩ := ho _ _ _ e
  obtain ⟨rfl, rfl⟩ := ra.iint
  obtain ⟨rfl, rfl⟩ := rb.iint
  exact ⟨i, j, rfl, rfl, c, q _ _ _ HE.refl (hg S H i j)⟩
theorem o_sub : OpR X (binaryOp .Sub) (rD2 dSub) := o_ints (gD := fun i j => .int (i - j)) op_sub (fun a b d e => by cases a <;> cases b <;> cases e; exact ⟨_, _, rfl, rfl, rfl⟩) fun _ _ _ _ => .int _
theorem o_lt : OpR X (compareOp .Lt) (rD2 dLt) := o_ints (gD := fun i j => .bl (decide (i < j))) op_lt (fun a b d e => by cases a <;> cases b <;> cases e; exact ⟨_, _, rfl, rfl, rfl⟩) fun _ _ _ _ => .bl _
theorem o_le : OpR X (compareOp .LtE) (rD2 dLe) := o_ints (gD := fun i j => .bl (decide (i ≤ j))) op_le (fun a b d e => by cases a <;> cases b <;> cases e; exact ⟨_, _, rfl, rfl, rfl⟩) fun _ _ _ _ => .bl _
theorem o_gt : OpR X (compareOp .Gt) (rD2 dGt) := o_ints (gD := fun i j => .bl (decide (j < i))) op_gt (fun a b d e => by cases a <;> cases b <;> cases e; exact ⟨_, _, rfl, rfl, rfl⟩) fun _ _ _ _ => .bl _
theorem o_ge : OpR X (compareOp .GtE) (rD2 dGe) := o_ints (gD := fun i j => .bl (decide (j ≤ i))) op_ge (fun a b d e => by cases a <;> cases b <;> cases e; exact ⟨_, _, rfl, rfl, rfl⟩) fun _ _ _ _ => .bl _
theorem o_div : OpR X (binaryOp .FloorDiv) (rD2 dDiv) := o_intsC (gD := fun i j => .int (i / j)) op_fdivW (fun a b d e => by
  cases a <;> cases b <;> first | cases e | skip
  rename_i i j
  have e : (if 0 < j ∧ j.natAbs.log2 < 9000 then some (D.int (i / j)) else none) = some d := e
  by_cases h : 0 < j ∧ j.natAbs.log2 < 9000
  · rw [if_pos h] at e; cases e; exact ⟨_, _, rfl, rfl, h, rfl⟩
  · rw [if_neg h] at e; cases e) fun _ _ _ _ => .int _
theorem o_mod : OpR X (binaryOp .Mod) (rD2 dMod) := o_intsC (gD := fun i j => .int (i % j)) op_mod (fun a b d e => by
  cases a <;> cases b <;> first | cases e | skip
  rename_i i j
  have e : (if 0 < j then some (D.int (i % j)) else none) = some d := e
  by_cases h : 0 < j
  · rw [if_pos h] at e; cases e; exact ⟨_, _, rfl, rfl, h, rfl⟩
  · rw [if_neg h] at e; cases e) fun _ _ _ _ => .int _
theorem o_pow : OpR X (binaryOp .Pow) (rD2 dPow) := o_intsC (gD := fun i j => .int (i ^ j.toNat)) op_pow (fun a b d e => by
  cases a <;> cases b <;> first | cases e | skip
  rename_i i j
  have e : (if 0 ≤ j ∧ j ≤ 1000 ∧ i.natAbs < 2 ^ 64 then some (D.int (i ^ j.toNat)) else none) = some d := e
  by_cases h : 0 ≤ j ∧ j ≤ 1000 ∧ i.natAbs < 2 ^ 64
  · rw [if_pos h] at e; cases e; exact ⟨_, _, rfl, rfl, ⟨h.1, by omega, h.2.2⟩, rfl⟩
  · rw [if_neg h] at e; cases e) fun _ _ _ _ => .int _
theorem mulC_ok {i j : Int} (h : mulC i j = true) : CMul i j ∨ CMulW i j := by
  unfold mulC at h
  simp only [Bool.or_eq_true, decide_eq_true_eq] at h
  rcases h with (h | h) | h
  · exact .inl (.inl ⟨by omega, by omega⟩)
  · exact .inl (.inr ⟨by omega, by omega⟩)
  · exact .inr h
theorem o_mul : OpR X (binaryOp .Mult) (rD2 dMul) := (op_mul.or (op_mulW.or op_rep)).imp fun x y H Q ⟨S, a, b, d, La, Lb, hn, ra, rb, e, q⟩ => by
  cases a with
  | int i =>
    cases b with
    | int j =>
      have e : (if mulC i j = true then some (D.int (i * j)) else none) = some d := e
      obtain ⟨rfl, rfl⟩ := ra.iint
      obtain ⟨rfl, rfl⟩ := rb.iint
      by_cases h : mulC i j = true
      · rw [if_pos h] at e
        cases e
        rcases mulC_ok h with h | h
        · exact .inl ⟨i, j, rfl, rfl, h, q _ _ _ HE.refl (.int _)⟩
        · exact .inr (.inl ⟨i, j, rfl, rfl, h, q _ _ _ HE.refl (.int _)⟩)
      · rw [if_neg h] at e; cases e
    | _ => cases e
  | lst xs =>
    cases b with
    | int k =>
      have e : (if -1000 ≤ k ∧ k ≤ 1000 ∧ xs.length ≤ 1000 ∧ lfs xs = true then some (D.lst (List.replicate k.toNat xs).flatten) else none) = some d := e
      obtain ⟨a, vs, L1, rfl, ea, na, rsa, rfl⟩ := ra.ilst
      obtain ⟨rfl, rfl⟩ := rb.iint
      by_cases h : -1000 ≤ k ∧ k ≤ 1000 ∧ xs.length ≤ 1000 ∧ lfs xs = true
      · rw [if_pos h] at e
        cases e
        have hl := rsa.len
        have hL := rsa.nils h.2.2.2
        subst hL
        refine .inr (.inr ⟨_, k, _, rfl, rfl, ea, by omega, by omega, ?_, fun p np => ?_⟩)
        · have h2 : vs.length * k.toNat ≤ 1000 * 1000 := Nat.mul_le_mul (by omega) (by omega)
          exact size_ok h2
        · exact q _ _ _ (HE.fresh np) (.lst upd_same (fun z => hn _ z np) ((rsa.repl k.toNat).ext0 (HE.fresh np)))
      · rw [if_neg h] at e; cases e
    | _ => cases e
  | _ => cases e
theorem o_neg : UnR X (unaryOp .USub) (rD1 dNeg) := un_neg.imp fun x H Q ⟨S, a, d, La, hn, ra, e, q⟩ => by
  cases a <;> cases e
  obtain ⟨rfl, rfl⟩ := ra.iint
  exact ⟨_, rfl, q _ _ _ HE.refl (.int _)⟩
theorem o_eq (hu : X.A.units + 64 < cLine) : OpR X (compareOp .Eq) (rD2 dEq) := (op_eqD hu).imp fun x y H Q ⟨S, a, b, d, La, Lb, hn, ra, rb, e, q⟩ => by
  unfold dEq at e
  by_cases h : (dOk 8 a && dOk 8 b) = true
  · rw [if_pos h] at e
    cases e
    rw [Bool.and_eq_true] at h
    exact ⟨_, _, ra.dp 8 h.1, rb.dp 8 h.2, dOk_shaped h.1, dOk_shaped h.2, q _ _ _ HE.refl (.bl _)⟩
  · rw [if_neg h] at e; cases e
theorem o_ne (hu : X.A.units + 64 < cLine) : OpR X (compareOp .NotEq) (rD2 dNe) := (op_neD hu).imp fun x y H Q ⟨S, a, b, d, La, Lb, hn, ra, rb, e, q⟩ => by
  unfold dNe at e
  by_cases h : (dOk 8 a && dOk 8 b) = true
  · rw [if_pos h] at e
    cases e
    rw [Bool.and_eq_true] at h
    exact ⟨_, _, ra.dp 8 h.1, rb.dp 8 h.2, dOk_shaped h.1, dOk_shaped h.2, q _ _ _ HE.refl (.bl _)⟩
  · rw [if_neg h] at e; cases e
theorem Rp.isNon {S : Sr} {H : Hp} {v : V} {d : D} {L : List Addr} (r : Rp S H v d L) : decide (v = .non) = d.isNon := by
  cases r <;> first | rfl | (exact decide_eq_false (fun z => nomatch z))
theorem o_is : OpR X (compareOp .Is) (rD2 dIs) := (op_isN.or op_isBl).imp fun x y H Q ⟨S, a, b, d, La, Lb, hn, ra, rb, e, q⟩ => by
  cases b with
  | non =>
    obtain ⟨rfl, rfl⟩ := rb.inon
    have e : some (D.bl a.isNon) = some d := by cases a <;> exact e
    cases e
    exact .inl ⟨rfl, q _ _ _ HE.refl (by rw [ra.isNon]; exact .bl _)⟩
  | bl k =>
    cases a with
    | bl k2 =>
      cases e
      obtain ⟨rfl, rfl⟩ := ra.ibl
      obtain ⟨rfl, rfl⟩ := rb.ibl
      exact .inr ⟨_, _, rfl, rfl, q _ _ _ HE.refl (.bl _)⟩
    | _ => cases e
  | _ => cases a <;> cases e
theorem o_isN : OpR X (compareOp .IsNot) (rD2 dIsN) := (op_notN.or op_notBl).imp fun x y H Q ⟨S, a, b, d, La, Lb, hn, ra, rb, e, q⟩ => by
  cases b with
  | non =>
    obtain ⟨rfl, rfl⟩ := rb.inon
    have e : some (D.bl (!a.isNon)) = some d := by cases a <;> exact e
    cases e
    exact .inl ⟨rfl, q _ _ _ HE.refl (by rw [ra.isNon]; exact .bl _)⟩
  | bl k =>
    cases a with
    | bl k2 =>
      cases e
      obtain ⟨rfl, rfl⟩ := ra.ibl
      obtain ⟨rfl, rfl⟩ := rb.ibl
      exact .inr ⟨_, _, rfl, rfl, q _ _ _ HE.refl (.bl _)⟩
    | _ => cases e
  | _ => cases a <;> cases e
theorem o_in : OpR X (compareOp .In) (rD2 dIn) := op_in_seq.imp fun x y H Q ⟨S, a, b, d, La, Lb, hn, ra, rb, e, q⟩ => by
  unfold dIn at e
  obtain ⟨xs, e1, e2⟩ := Option.bind_eq_some_iff.mp e
  obtain ⟨p, vs, L', rfl, ho, rs⟩ := rb.items e1
  by_cases h : (flatD a && xs.all flatD) = true
  · rw [if_pos h] at e2
    cases e2
    rw [Bool.and_eq_true] at h
    refine ⟨p, vs, rfl, ho.elim (fun z => .inl (.inl z)) fun z => .inr (.inl z), ra.flat h.1, rs.flats h.2, ?_⟩
    rw [if_neg Bool.false_ne_true, rs.inD ra h.1 h.2]
    exact q _ _ _ HE.refl (.bl _)
  · rw [if_neg h] at e2; cases e2
theorem o_notIn : OpR X (compareOp .NotIn) (rD2 dNotIn) := op_notIn_seq.imp fun x y H Q ⟨S, a, b, d, La, Lb, hn, ra, rb, e, q⟩ => by
  unfold dNotIn at e
  obtain ⟨xs, e1, e2⟩ := Option.bind_eq_some_iff.mp e
  obtain ⟨p, vs, L', rfl, ho, rs⟩ := rb.items e1
  by_cases h : (flatD a && xs.all flatD) = true
  · rw [if_pos h] at e2
    cases e2
    rw [Bool.and_eq_true] at h
    refine ⟨p, vs, rfl, ho.elim (fun z => .inl (.inl z)) fun z => .inr (.inl z), ra.flat h.1, rs.flats h.2, ?_⟩
    rw [if_pos rfl, rs.inD ra h.1 h.2]
    exact q _ _ _ HE.refl (.bl _)
  · rw [if_neg h] at e2; cases e2
theorem Rps.atI {S : Sr} {H : Hp} {vs : List V} {ds : List D} {L : List Addr} (r : Rps S H vs ds L) {i : Int} {d : D} (h : atI ds i = some d) : ∃ v L', L2.atI vs i = some v ∧ Rp S H v d L' ∧ ∀ a ∈ L', a ∈ L := by
  unfold L2.atI at h
  obtain ⟨j, e1, e2⟩ := Option.bind_eq_some_iff.mp h
  obtain ⟨v, L', h1, h2, h3⟩ := r.get e2
  refine ⟨v, L', ?_, h2, h3⟩
  unfold L2.atI
  rw [r.len, e1]
  exact h1
theorem o_ix : IxR X (rD2 dIx) := (ix_list.or ix_tup).imp fun x y H Q ⟨S, a, b, d, La, Lb, hn, ra, rb, e, q⟩ => by
  cases b with
  | int i =>
    obtain ⟨rfl, rfl⟩ := rb.iint
    obtain ⟨xs, e1, e2⟩ := Option.bind_eq_some_iff.mp (show (a.items.bind fun xs => atI xs i) = some d from e)
    obtain ⟨p, vs, L', rfl, ho, rs⟩ := ra.items e1
    obtain ⟨v, L2', h1, h2, _⟩ := rs.atI e2
    rcases ho with ho | ho
    · exact .inl ⟨p, vs, i, v, rfl, rfl, .inl ho, h1, q _ _ _ HE.refl h2⟩
    · exact .inr ⟨p, vs, i, v, rfl, rfl, .inl ho, h1, q _ _ _ HE.refl h2⟩
  | _ => cases e

/-! ### slices -/
abbrev FO := Ev → M (Option Int)
def tO (f : FO) : TO := fun σ H Q => ∃ S δ st d st', Rs S H σ δ ∧ SrcOk S H st ∧ f δ st = some (d, st') ∧ ∀ H', Ext S H H' → SrcOk S H' st' → Q d H'
abbrev DO (X : Cx) (e : Option Expr) (f : FO) : Prop := PO X e (tO f)
theorem _root_.L2.PO.imp {X : Cx} {e : Option Expr} {t t' : TO} (p : PO X e t) (h : ∀ σ H Q, t' σ H Q → t σ H Q) : PO X e t' := ⟨fun pins s σ H Q I w => p.run pins s σ H Q I (h σ H Q w)⟩
def fNo : FO := fun _ => M.ret none
def fSo (f : FE) : FO := fun δ => (f δ).bd fun d => M.of (match d with | .int i => some (some i) | _ => none)
theorem do_none : DO X none fNo := po_none.imp fun σ H Q ⟨S, δ, st, d, st', rs, so, e, q⟩ => by
  obtain ⟨e1, e2⟩ := ret_inv e
  subst e1 e2
  exact q H HE.refl so
theorem do_some {e : Expr} {f : FE} (h : DE X e f) : DO X (some e) (fSo f) := (po_some h).imp fun σ H Q ⟨S, δ, st, d, st', rs, so, e, q⟩ => by
  obtain ⟨x, s1, ea, e⟩ := bd_inv e
  obtain ⟨eo, es⟩ := of_inv e
  subst es
  refine ⟨S, δ, st, x, _, rs, so, ea, fun v H1 L1 x1 so1 r1 => ?_⟩
  cases x with
  | int i =>
    cases eo
    obtain ⟨rfl, rfl⟩ := r1.iint
    exact ⟨i, rfl, q H1 x1 so1⟩
  | _ => cases eo
def cutD (xs : List D) (lo hi : Option Int) : List D := (xs.drop (HT.sIx xs.length 0 lo)).take (HT.sIx xs.length xs.length hi - HT.sIx xs.length 0 lo)
def dSl (a : D) (lo hi : Option Int) : Option D := match a with
  | .tup xs => some (.tup (cutD xs lo hi))
  | .lst xs => some (.lst (cutD xs lo hi))
  | _ => none
theorem Rps.cut {S : Sr} {H : Hp} {vs : List V} {ds : List D} {L : List Addr} (r : Rps S H vs ds L) (lo hi : Option Int) : ∃ L', Rps S H (cutV vs lo hi) (cutD ds lo hi) L' := by
  unfold cutV cutD
  rw [r.len]
  refine Rps.mk (by simp [r.len]) fun i d v h1 h2 => ?_
  rw [List.getElem?_take] at h1 h2
  by_cases hi' : i < HT.sIx ds.length ds.length hi - HT.sIx ds.length 0 lo
  · rw [if_pos hi', List.getElem?_drop] at h1 h2
    obtain ⟨w, L', e1, e2, _⟩ := r.get h1
    rw [h2] at e1
    cases e1
    exact ⟨L', e2⟩
  · rw [if_neg hi'] at h1; cases h1
def rSlD : V → Option Int → Option Int → Hp → VK → Prop := fun x lo hi H Q => ∃ S a d La, S.tr H ∧ Rp S H x a La ∧ dSl a lo hi = some d ∧ ∀ v H' L, HE0 H H' → Rp S H' v d L → Q v H'
theorem _root_.L2.SlR.imp {r r' : V → Option Int → Option Int → Hp → VK → Prop} (p : SlR X r) (h : ∀ x lo hi H Q, r' x lo hi H Q → r x lo hi H Q) : SlR X r' := by
  intro pins s σ H x v vl vu lo hi sl Q I rx hs pl pu w
  exact p pins s σ H x v vl vu lo hi sl Q I rx hs pl pu (h _ _ _ _ _ w)
theorem sl_D : SlR X rSlD := (sl_list.or sl_tupA).imp fun x lo hi H Q ⟨S, a, d, La, hn, ra, e, q⟩ => by
  cases a with
  | tup xs =>
    cases e
    obtain ⟨a, vs, rfl, ea, rs⟩ := ra.itup
    obtain ⟨L', rc⟩ := rs.cut lo hi
    refine .inr ⟨a, vs, rfl, (.inl ea), fun hw => ?_, fun _ p np => ?_⟩
    · have e2 : cutD xs lo hi = xs := by
        unfold cutD
        rw [← rs.len, hw.1, hw.2, List.drop_zero, Nat.sub_zero]
        exact List.take_of_length_le (by rw [rs.len]; exact Nat.le_refl _)
      rw [e2] at q
      exact q _ _ _ HE.refl (.tup ea rs)
    · exact q _ _ _ (HE.fresh np) (.tup (.inl upd_same) (rc.ext0 (HE.fresh np)))
  | lst xs =>
    cases e
    obtain ⟨a, vs, L1, rfl, ea, na, rs, rfl⟩ := ra.ilst
    obtain ⟨L', rc⟩ := rs.cut lo hi
    exact .inl ⟨a, vs, rfl, SqL.of ea, fun p np => q _ _ _ (HE.fresh np) (.lst upd_same (fun z => hn _ z np) (rc.ext0 (HE.fresh np)))⟩
  | _ => cases e
def eSl (f : FE) (lo hi : FO) : FE := fun δ => (f δ).bd fun a => (lo δ).bd fun l => (hi δ).bd fun u => M.of (dSl a l u)
theorem d_sl {e : Expr} {f : FE} {lo hi : Option Expr} {l u : FO} {p2 pos : Pos} (he : DE X e f) (hl : DO X lo l) (hu : DO X hi u) : DE X (.Subscript e (.Slice lo hi none p2) pos) (eSl f l u) := (pe_slice sl_D he hl hu).imp fun σ H Q ⟨S, δ, st, d, st', rs, so, e, q⟩ => by
  obtain ⟨x, s1, ea, e⟩ := bd_inv e
  obtain ⟨y, s2, eb, e⟩ := bd_inv e
  obtain ⟨z, s3, ec, e⟩ := bd_inv e
  obtain ⟨eo, es⟩ := of_inv e
  subst es
  exact ⟨S, δ, st, x, s1, rs, so, ea, fun v H1 L1 x1 so1 r1 => ⟨S, δ, s1, y, s2, rs.extS x1, so1, eb, fun H2 x2 so2 => ⟨S, δ, s2, z, _, rs.extS (x1.trans x2), so2, ec, fun H3 x3 so3 =>
    ⟨S, x, d, L1, so3.tr, r1.extS (x2.trans x3), eo, fun w H4 L4 x4 r4 => q w H4 L4 (x1.trans (x2.trans (x3.trans x4.up0))) (so3.ext0 x4) r4⟩⟩⟩⟩

/-! ### calls of built-ins -/
def eCall (o : List D → Option D) (fs : Ev → M (List D)) : FE := fun δ => (fs δ).bd fun ds => M.of (o ds)
theorem tcb_imp {o : List D → Option D} {fs : Ev → M (List D)} : ∀ σ H Q, tD (eCall o fs) σ H Q → tCB (rDs o) (tAs fs) σ H Q := fun σ H Q ⟨S, δ, st, d, st', rs, so, e, q⟩ => by
  obtain ⟨x, s1, ea, e⟩ := bd_inv e
  obtain ⟨eo, es⟩ := of_inv e
  subst es
  exact ⟨S, δ, st, x, _, rs, so, ea, fun vs H1 L1 x1 so1 r1 => ⟨S, x, d, L1, so1.tr, r1, eo, fun z H3 L3 x3 r3 => q z H3 L3 (x1.trans x3.up0) (so1.ext0 x3) r3⟩⟩
theorem d_bi {id : String} {x : Str} {p pos : Pos} {e : Expr} {es : List Expr} {o : List D → Option D} {fs : Ev → M (List D)} (hc : CallR X (.builtin id) (rDs o)) (hg : Gl X x) (hm : X.mg x = none) (hv : bootBuiltins x = some (.builtin id)) (ha : DA X (e :: es) fs)
    (hn : x ≠ "__name__" := by decide) (hdb : (x == ("__debug__" : Str)) = false := by decide) (he : starEach (e :: es) X.env = (false, eval e X.env) :: starEach es X.env := by rfl) (hpl : (backTo pos (starEach es X.env)).any (·.1) = false := by rfl) :
    DE X (.Call (.Name x p) (e :: es) [] pos) (eCall o fs) := (pe_callB hc hg hm hv ha hn hdb he hpl).imp tcb_imp
theorem d_ty {T : String} {x : Str} {p pos : Pos} {e : Expr} {es : List Expr} {o : List D → Option D} {fs : Ev → M (List D)} (hc : CallR X (.type T) (rDs o)) (hg : Gl X x) (hm : X.mg x = none) (hv : bootBuiltins x = some (.type T)) (ha : DA X (e :: es) fs)
    (hn : x ≠ "__name__" := by decide) (hdb : (x == ("__debug__" : Str)) = false := by decide) (he : starEach (e :: es) X.env = (false, eval e X.env) :: starEach es X.env := by rfl) (hpl : (backTo pos (starEach es X.env)).any (·.1) = false := by rfl) :
    DE X (.Call (.Name x p) (e :: es) [] pos) (eCall o fs) := (pe_callTy hc hg hm hv ha hn hdb he hpl).imp tcb_imp
theorem Rps.i1 {S : Sr} {H : Hp} {vs : List V} {d : D} {L : List Addr} (r : Rps S H vs [d] L) : ∃ v, vs = [v] ∧ Rp S H v d L := by
  cases r with
  | cons r rs => cases rs; exact ⟨_, rfl, by simpa using r⟩
theorem Rps.i2 {S : Sr} {H : Hp} {vs : List V} {d e : D} {L : List Addr} (r : Rps S H vs [d, e] L) : ∃ v u L1 L2, vs = [v, u] ∧ Rp S H v d L1 ∧ Rp S H u e L2 := by
  cases r with
  | cons r rs =>
    obtain ⟨u, rfl, r2⟩ := rs.i1
    exact ⟨_, _, _, _, rfl, r, r2⟩
theorem Rps.i3 {S : Sr} {H : Hp} {vs : List V} {d e f : D} {L : List Addr} (r : Rps S H vs [d, e, f] L) : ∃ v u w L1 L2 L3, vs = [v, u, w] ∧ Rp S H v d L1 ∧ Rp S H u e L2 ∧ Rp S H w f L3 := by
  cases r with
  | cons r rs =>
    obtain ⟨u, w, L1, L2, rfl, r2, r3⟩ := rs.i2
    exact ⟨_, _, _, _, _, _, rfl, r, r2, r3⟩
def bLen : List D → Option D
  | [d] => d.items.map fun xs => .int xs.length
  | _ => none
theorem b_len : CallR X (.builtin "len") (rDs bLen) := call_len_seq.imp fun x H Q ⟨S, ds, d, La, hn, rs, e, q⟩ => by
  match ds, e with
  | [a], e =>
    obtain ⟨v, rfl, r⟩ := rs.i1
    obtain ⟨xs, e1, e2⟩ := Option.map_eq_some_iff.mp (show (a.items.map fun xs => D.int xs.length) = some d from e)
    obtain ⟨p, vs, L', rfl, ho, rs'⟩ := r.items e1
    subst e2
    refine ⟨p, vs, rfl, ho.elim (fun z => .inl (.inl z)) fun z => .inr (.inl z), ?_⟩
    rw [rs'.len]
    exact q _ _ _ HE.refl (.int _)
def bAbs : List D → Option D
  | [.int i] => some (.int (if i < 0 then -i else i))
  | _ => none
theorem b_abs : CallR X (.builtin "abs") (rDs bAbs) := call_abs.imp fun x H Q ⟨S, ds, d, La, hn, rs, e, q⟩ => by
  match ds, e with
  | [.int i], e =>
    cases e
    obtain ⟨v, rfl, r⟩ := rs.i1
    obtain ⟨rfl, rfl⟩ := r.iint
    exact ⟨i, rfl, q _ _ _ HE.refl (.int _)⟩
def bInt : List D → Option D
  | [.int i] => some (.int i)
  | _ => none
theorem b_int : CallR X (.type "int") (rDs bInt) := call_int1.imp fun x H Q ⟨S, ds, d, La, hn, rs, e, q⟩ => by
  match ds, e with
  | [.int i], e =>
    cases e
    obtain ⟨v, rfl, r⟩ := rs.i1
    obtain ⟨rfl, rfl⟩ := r.iint
    exact .inl ⟨i, rfl, q _ _ _ HE.refl (.int _)⟩
def bMax2 : List D → Option D
  | [.int i, .int j] => some (.int (if j > i then j else i))
  | _ => none
theorem b_max2 (hc : X.calm = true) : CallR X (.builtin "max") (rDs bMax2) := (call_max2 hc).imp fun x H Q ⟨S, ds, d, La, hn, rs, e, q⟩ => by
  match ds, e with
  | [.int i, .int j], e =>
    cases e
    obtain ⟨v, u, _, _, rfl, r, r'⟩ := rs.i2
    obtain ⟨rfl, rfl⟩ := r.iint
    obtain ⟨rfl, rfl⟩ := r'.iint
    exact ⟨i, j, rfl, q _ _ _ HE.refl (.int _)⟩
def bMin2 : List D → Option D
  | [.int i, .int j] => some (.int (if j < i then j else i))
  | _ => none
theorem b_min2 (hc : X.calm = true) : CallR X (.builtin "min") (rDs bMin2) := (call_min2 hc).imp fun x H Q ⟨S, ds, d, La, hn, rs, e, q⟩ => by
  match ds, e with
  | [.int i, .int j], e =>
    cases e
    obtain ⟨v, u, _, _, rfl, r, r'⟩ := rs.i2
    obtain ⟨rfl, rfl⟩ := r.iint
    obtain ⟨rfl, rfl⟩ := r'.iint
    exact ⟨i, j, rfl, q _ _ _ HE.refl (.int _)⟩
/-- boolL, intL of a list -/
def boolL : List D → Option (List Bool)
  | [] => some []
  | .bl b :: ds => (boolL ds).map (b :: ·)
  | _ => none
def intL : List D → Option (List Int)
  | [] => some []
  | .int b :: ds => (intL ds).map (b :: ·)
  | _ => none
theorem Rps.boolL {S : Sr} {H : Hp} {vs : List V} {ds : List D} {L : List Addr} {bs : List Bool} (r : Rps S H vs ds L) (h : boolL ds = some bs) : vs = bs.map V.bl := by
  induction ds generalizing vs L bs with
  | nil => cases r; cases h; rfl
  | cons d ds ih =>
    cases r with
    | cons r rs =>
      cases d with
      | bl b =>
        obtain ⟨cs, e1, e2⟩ := Option.map_eq_some_iff.mp (show (DL.boolL ds).map (b :: ·) = some bs from h)
        subst e2
        rw [ih rs e1, r.ibl.1]; rfl
      | _ => cases h
theorem Rps.intL {S : Sr} {H : Hp} {vs : List V} {ds : List D} {L : List Addr} {bs : List Int} (r : Rps S H vs ds L) (h : intL ds = some bs) : vs = bs.map V.int := by
  induction ds generalizing vs L bs with
  | nil => cases r; cases h; rfl
  | cons d ds ih =>
    cases r with
    | cons r rs =>
      cases d with
      | int b =>
        obtain ⟨cs, e1, e2⟩ := Option.map_eq_some_iff.mp (show (DL.intL ds).map (b :: ·) = some bs from h)
        subst e2
        rw [ih rs e1, r.iint.1]; rfl
      | _ => cases h
def bAny : List D → Option D
  | [.lst ds] => (boolL ds).map fun bs => .bl (bs.any id)
  | _ => none
def bAll : List D → Option D
  | [.lst ds] => (boolL ds).map fun bs => .bl (bs.all id)
  | _ => none
def bSum : List D → Option D
  | [.lst ds] => (intL ds).map fun bs => .int bs.sum
  | _ => none
theorem b_any (hc : X.calm = true) : CallR X (.builtin "any") (rDs bAny) := (cr_any hc).imp fun x H Q ⟨S, ds, d, La, hn, rs, e, q⟩ => by
  match ds, e with
  | [.lst xs], e =>
    obtain ⟨v, rfl, r⟩ := rs.i1
    obtain ⟨bs, e1, e2⟩ := Option.map_eq_some_iff.mp (show (boolL xs).map (fun bs => D.bl (bs.any id)) = some d from e)
    subst e2
    obtain ⟨a, vs, L1, rfl, ea, na, rs', rfl⟩ := r.ilst
    rw [rs'.boolL e1] at ea
    exact ⟨a, bs, rfl, SqL.of ea, q _ _ _ HE.refl (.bl _)⟩
theorem b_all (hc : X.calm = true) : CallR X (.builtin "all") (rDs bAll) := (cr_all hc).imp fun x H Q ⟨S, ds, d, La, hn, rs, e, q⟩ => by
  match ds, e with
  | [.lst xs], e =>
    obtain ⟨v, rfl, r⟩ := rs.i1
    obtain ⟨bs, e1, e2⟩ := Option.map_eq_some_iff.mp (show (boolL xs).map (fun bs => D.bl (bs.all id)) = some d from e)
    subst e2
    obtain ⟨a, vs, L1, rfl, ea, na, rs', rfl⟩ := r.ilst
    rw [rs'.boolL e1] at ea
    exact ⟨a, bs, rfl, SqL.of ea, q _ _ _ HE.refl (.bl _)⟩
theorem b_sum (hc : X.calm = true) : CallR X (.builtin "sum") (rDs bSum) := (cr_sum hc).imp fun x H Q ⟨S, ds, d, La, hn, rs, e, q⟩ => by
  match ds, e with
  | [.lst xs], e =>
    obtain ⟨v, rfl, r⟩ := rs.i1
    obtain ⟨bs, e1, e2⟩ := Option.map_eq_some_iff.mp (show (intL xs).map (fun bs => D.int bs.sum) = some d from e)
    subst e2
    obtain ⟨a, vs, L1, rfl, ea, na, rs', rfl⟩ := r.ilst
    rw [rs'.intL e1] at ea
    exact ⟨a, bs, rfl, SqL.of ea, q _ _ _ HE.refl (.int _)⟩
def bTup : List D → Option D
  | [.lst ds] => some (.tup ds)
  | [.tup ds] => some (.tup ds)
  | _ => none
theorem b_tup : CallR X (.type "tuple") (rDs bTup) := call_tuple_of.imp fun x H Q ⟨S, ds, d, La, hn, rs, e, q⟩ => by
  match ds, e with
  | [.lst xs], e =>
    cases e
    obtain ⟨v, rfl, r⟩ := rs.i1
    obtain ⟨a, vs, L1, rfl, ea, na, rs', rfl⟩ := r.ilst
    exact ⟨a, vs, rfl, .inl ⟨SqL.of ea, fun p np => q _ _ _ (HE.fresh np) (.tup (.inl upd_same) (rs'.ext0 (HE.fresh np)))⟩⟩
  | [.tup xs], e =>
    cases e
    obtain ⟨v, rfl, r⟩ := rs.i1
    obtain ⟨a, vs, rfl, ea, rs'⟩ := r.itup
    exact ⟨a, vs, rfl, .inr ⟨(.inl ea), q _ _ _ HE.refl (.tup ea rs')⟩⟩
def bList : List D → Option D
  | [d] => d.items.map .lst
  | _ => none
theorem b_list : CallR X (.type "list") (rDs bList) := call_list_of.imp fun x H Q ⟨S, ds, d, La, hn, rs, e, q⟩ => by
  match ds, e with
  | [a], e =>
    obtain ⟨v, rfl, r⟩ := rs.i1
    obtain ⟨xs, e1, e2⟩ := Option.map_eq_some_iff.mp (show (a.items.map D.lst) = some d from e)
    obtain ⟨p, vs, L', rfl, ho, rs'⟩ := r.items e1
    subst e2
    exact ⟨p, vs, rfl, ho.elim (fun z => .inl (.inl z)) fun z => .inr (.inl z), fun l nl => q _ _ _ (HE.fresh nl) (.lst upd_same (fun z => hn _ z nl) (rs'.ext0 (HE.fresh nl)))⟩
end
end DL
set_option Elab.async false
set_option linter.all false
set_option maxRecDepth 100000
set_option maxHeartbeats 4000000
/-! DEnum: enumerate over a tuple, as what a loop walks. -/
namespace DL
open PySem PySem.Spec PyProof.Rows L2

theorem enum1_meets {v : Value} {o : Obj} {T : Heap → Prop} (B : Begins v o T) : Meets (Builtin.«enumerate.__new__» ⟨[.type "enumerate", v], []⟩) (fun _ R s => T s.heap ∧
    R (.ok (.ret (.ref (s.heap.push o).objs.size))) { s with heap := (s.heap.push o).push { cls := .type "enumerate", data := .fields #[.none, .bool false, .ref s.heap.objs.size, rawInt 0, .none, .none] } }) := by
  refine Meets.of_wp fun prog w A R s h => ?_
  obtain ⟨hp, g, d, tk, os⟩ := s
  have hsubt := sub_enumerate
  have it1 : ∀ {A' : Around} {E : Value → Shared → Prop} {Q : Value → Shared → Prop}, Q (.ref hp.objs.size) ⟨hp.push o, g, d, tk, os⟩ → wpAny (model prog w) A' (pyIter v) Q E ⟨hp, g, d, tk, os⟩ := fun q => B.iter _ _ _ _ ⟨hp, g, d, tk, os⟩ _ h.1 q
  replace h := h.2
  wp_walk using it1
  refine wpAny_stack_any fun st => (wpAny_pure ?_)
  split
  · rename_i c _ _ _ _ _
    cases (c == Value.type "enumerate") <;> (wp_walk using it1; exact ⟨_, rfl, h⟩)
  · (wp_walk using it1; exact ⟨_, rfl, h⟩)

theorem enum1_call {prog : Program} {w : World} {A : Around} {E : Value → Shared → Prop} {s : Shared} {v : Value} {o : Obj} {T : Heap → Prop} {Q : Value → Shared → Prop} (B : Begins v o T) (h1 : T s.heap)
    (h : ∀ h', IsEnum h' (s.heap.objs.size + 1) s.heap.objs.size 0 .none → h'.get? s.heap.objs.size = some o → (∀ b u, s.heap.get? b = some u → h'.get? b = some u) → Q (.ref (s.heap.objs.size + 1)) { s with heap := h' }) :
    wpAny (model prog w) A (call (.type "enumerate") [v]) Q E s := by
  refine callType_new F.called_enumerate (by decide) (F.typeCall_enumerate_1 _) (F.newCall_enumerate_1 _) (fun obj => F.args_object_init_2 obj _) F.entry_enumerate_new (enum1_meets B) ⟨h1, ?_⟩
  have hz : (s.heap.push o).objs.size = s.heap.objs.size + 1 := Heap.size_push ..
  show _ ∧ _
  rw [hz]
  have he : IsEnum ((s.heap.push o).push { cls := .type "enumerate", data := .fields #[.none, .bool false, .ref s.heap.objs.size, rawInt 0, .none, .none] }) (s.heap.objs.size + 1) s.heap.objs.size 0 .none := by
    have z := Heap.get?_push_size (s.heap.push o) (o := { cls := .type "enumerate", data := .fields #[.none, .bool false, .ref s.heap.objs.size, rawInt 0, .none, .none] }) rfl
    rwa [hz] at z
  exact ⟨⟨_, he, rfl⟩, h _ he (Heap.get?_push_of_some _ (Heap.get?_push_size _ B.free)) fun b u x => Heap.get?_push_of_some _ (Heap.get?_push_of_some _ x)⟩

/-- the tuple at a, each item in a new pair -/
def IteT (K : PySem.W.Frag) (a : Addr) : It :=
  ⟨fun i H => ∃ (xs : List V) (x : V), SqT K H a xs ∧ xs[i]? = some x, fun i H v H' => ∃ T x, v = .ref T ∧ H T = none ∧ H' = upd H T (.tup [.int (i : Nat), x]) ∧ ∀ xs, SqT K H a xs → xs[i]? = some x, fun i H => ∃ xs : List V, SqT K H a xs ∧ xs.length ≤ i⟩
theorem turn_enumT {P : Program} {w : World} {K : PySem.W.Frag} {elts : List Expr} {kk : Nat} {tpos : Pos} (a e it : Addr) :
    Turn P w K (.Tuple elts kk tpos) (IteT K a) [e, it] e (fun i h => (∃ old, IsEnum h e it ((i : Nat) : Int) old) ∧ h.IsTupleIter it a i ∧ e ≠ it ∧ a ≠ it ∧ a ≠ e) where
  mem := List.mem_cons_self
  obj := fun i h st b hb => by
    obtain ⟨⟨old, he⟩, ⟨o, ho, hc, hd⟩, _⟩ := st
    rcases (show b = e ∨ b = it by simpa using hb) with z | z
    · exact ⟨_, z ▸ he, fun v q => by cases q⟩
    · exact ⟨o, z ▸ ho, fun v q => by rw [hd] at q; cases q⟩
  keep := fun i h h' st k => ⟨⟨st.1.choose, k e (by simp) _ st.1.choose_spec⟩, st.2.1.at fun o q => k it (by simp) o q, st.2.2⟩
  item := by
    intro X hP hw hK hc i pins s σ H E I hf st hg
    subst hP hw hK
    obtain ⟨⟨old, he⟩, hit, hne, hai, hae⟩ := st
    obtain ⟨xs, x, hq, hx⟩ := hg
    obtain ⟨its, rv, p, hz⟩ := I.tuple hq
    obtain ⟨u, hu, ru⟩ := rv.get hx
    have hel : e < s.heap.objs.size := Heap.lt_size he
    have hil : it < s.heap.objs.size := by obtain ⟨_, q, _⟩ := hit; exact Heap.lt_size q
    have hlt : i < its.toArray.size := by
      rw [List.size_toArray, ← rv.length]
      exact (List.getElem?_eq_some_iff.mp hx).1
    refine wpAny_pyNext_enum_itemD (Draws.tuple (A := X.A.in1) (I.ok.hd hc) it a hai its.toArray) he ⟨hit, p⟩ hlt hne (by simp [hne, Ne.symm hae]) fun y h' tk hy ho hst hT hsz hk => ?_
    have ey : y = u := by
      have : some y = some u := by rw [← hy]; simpa using hu
      exact Option.some.inj this
    subst ey
    refine ⟨_, rfl, wpAny_letOwnedTupleGo_enum (s := { s with heap := h', toks := tk + 1 }) ho fun h'' he' sb => ?_⟩
    have hT2 : h''.get? s.heap.objs.size = some { cls := .type "tuple", data := .seq #[.int i tk, y] } := (sb.2 _ (Nat.ne_of_gt hel)).trans hT
    have new : ObjOk X.prog X.w (upd H s.heap.objs.size (.tup [.int (i : Nat), x])) h'' s.heap.objs.size (.tup [.int (i : Nat), x]) := ⟨size_ok (by show 2 ≤ 1000000; decide), [.int i tk, y], .cons ⟨_, rfl⟩ (.cons ru .nil), ⟨_, hT2, rfl, _, rfl⟩⟩
    have I1 : Inv X pins σ (upd H s.heap.objs.size (.tup [.int (i : Nat), x])) { s with heap := h'', toks := tk + 1 } :=
      I.turnedNew (t' := tk + 1) (ch := [e, it]) (fun b ob hb q => (sb.2 b (fun z => hb (by simp [z]))).trans (hk b ob (fun z => hb (by simp [z])) (fun z => hb (by simp [z])) q)) hf (Nat.le_refl _) new
    refine ⟨.ref s.heap.objs.size, _, I1, rfl, ⟨_, x, rfl, I.hok.fresh (Nat.le_refl _), rfl, fun ys hy => by rw [I.tuple_inj hy hq]; exact hx⟩, ⟨⟨y, ?_⟩, hst.1.at fun o q => (sb.2 it (Ne.symm hne)).trans q, hne, hai, hae⟩, fun b hb => ?_⟩
    · rw [show ((i + 1 : Nat) : Int) = (i : Int) + 1 by omega]; exact he'
    · have hb' : b < s.heap.objs.size := by
        rcases (show b = e ∨ b = it by simpa using hb) with z | z
        · exact z ▸ hel
        · exact z ▸ hil
      rw [upd_ne (Nat.ne_of_lt hb')]
      exact (hf b hb).1
  done := by
    intro X hP hw hK hc i pins s σ H E I hf st hg
    subst hP hw hK
    obtain ⟨⟨old, he⟩, hit, hne, hai, hae⟩ := st
    obtain ⟨xs, hq, hx⟩ := hg
    obtain ⟨its, rv, p, hz⟩ := I.tuple hq
    obtain ⟨f0, f1, f2, f3, f4, f5⟩ := hf it (by simp)
    have hl := rv.length
    have fin : ∀ h' : Heap, Heap.ExtBut it s.heap h' → Inv X pins σ H { s with heap := h' } := fun h' eb => I.turned (t' := s.toks) (fun b o hb q => eb b o hb q) f0 f1 f3 f4 f5
    have hT : s.TypeIs (.ref e) "enumerate" := ⟨_, he, rfl⟩
    unfold pyNext
    refine wpAny_bind (wpAny_attempt (wpAny_callSpecial?_slot (name := Str.ofString "__next__") hT F.slot_enumerate_next (wpAny_call_entry F.slot_enumerate_next hT F.entry_enumerate_next ?_ (F.args_enumerate_next_1 _))))
    show wpAny _ _ (PySem.field (.ref e) 2 >>= _) _ _ _
    refine wpAny_bind (wpAny_field he rfl (x := .ref it) rfl ?_)
    refine wpAny_bind (wpAny_nextOf_tuple_end (I.ok.hd hc) hit (show s.heap.IsTuple a its.toArray from p) (by simp; omega) fun h' x eb ⟨o, ho, hcl⟩ => ?_)
    refine wpAny_bind (wpAny_isInstance (T := "StopIteration") (b := true) ⟨o, ho, hcl⟩ isSubtype_stop (wpAny_pure ?_))
    exact ⟨rfl, fin h' eb⟩
  self := fun A i s Q E st h => wpAny_pyIter_enum st.1.choose_spec h
def iEnumT (K : PySem.W.Frag) (ta : TA) : TI := fun σ H R => ta σ H fun vs H1 => ∃ a xs, vs = [.ref a] ∧ SqT K H1 a xs ∧ R (IteT K a) H1
theorem pi_enumT {X : Cx} {e : Expr} {ta : TA} {p pos tpos : Pos} {elts : List Expr} {kk : Nat} (hg : Gl X "enumerate") (hm : X.mg "enumerate" = none) (ha : PA X [e] ta) (hs : starEach [e] X.env = [(false, eval e X.env)] := by rfl) :
    PI X (.Tuple elts kk tpos) (.Call (.Name "enumerate" p) [e] [] pos) (iEnumT X.K ta) := by
  refine ⟨fun pins s σ H R I h => (Call_ (ld_blt I hg hm boot_enumerate (PyProof.Rows.callWith_type1 (thn (ha.run pos pins s σ H _ I h) fun us s1 ⟨vs, H1, I1, r1, q1⟩ => ?_) hs rfl)))⟩
  obtain ⟨a, xs, ex, hq, q⟩ := q1
  subst ex
  cases r1 with
  | cons r rr =>
    cases rr
    cases r
    obtain ⟨its, rv, p', hz⟩ := I1.tuple hq
    have hal : a < s1.heap.objs.size := by obtain ⟨_, z, _⟩ := p'; exact Heap.lt_size z
    refine enum1_call (begins_tuple a its.toArray) (show s1.heap.IsTuple a its.toArray from p') fun h' he hit hk => (wpAny_pyIter_enum he ?_)
    refine ⟨s1.heap.objs.size + 1, [s1.heap.objs.size + 1, s1.heap.objs.size], _, _, H1, rfl, I1.kept (t' := s1.toks) hk, turn_enumT a (s1.heap.objs.size + 1) s1.heap.objs.size,
      ⟨⟨.none, he⟩, ⟨_, hit, rfl, rfl⟩, Nat.succ_ne_self _, Nat.ne_of_lt hal, Nat.ne_of_lt (Nat.lt_succ_of_lt hal)⟩, fun b hb => ?_, q⟩
    have hle : s1.heap.objs.size ≤ b := by
      rcases (show b = s1.heap.objs.size + 1 ∨ b = s1.heap.objs.size by simpa using hb) with z | z
      · exact z ▸ Nat.le_succ _
      · exact z ▸ Nat.le_refl _
    exact I1.fpOk hle (I1.hok.fresh hle)
end DL
set_option Elab.async false
set_option linter.all false
set_option maxRecDepth 100000
set_option maxHeartbeats 4000000
/-! DL3: what is walked, as lists of data; list comprehensions; calls of own defs; isinstance. -/
namespace DL
open PySem PySem.Spec PyProof.Rows L2 RZ

def Sr.hide (S : Sr) (p : Addr) : Sr := { S with hid := fun b => S.hid b ∨ b = p, hA := .inl S.hA, hQ := .inl S.hQ }
section
variable {S : Sr} {H : Hp} {p : Addr}
mutual
theorem Rp.hide {v : V} {d : D} {L : List Addr} (r : Rp S H v d L) (h : ∀ a ∈ L, a ≠ p) : Rp (S.hide p) H v d L := by
  cases r with
  | non => exact .non
  | bl b => exact .bl b
  | int i => exact .int i
  | str x => exact .str x
  | src => exact .src (S := S.hide p)
  | dct e => exact .dct e
  | rng e => exact .rng e
  | tup e rs => exact .tup e (rs.hide h)
  | tupk e hd rs => exact .tupk e hd (rs.hide h)
  | lst e n rs => exact .lst e (fun z => z.elim n (h _ List.mem_cons_self)) (rs.hide fun a ha => h a (List.mem_cons_of_mem _ ha))
theorem Rps.hide {vs : List V} {ds : List D} {L : List Addr} (r : Rps S H vs ds L) (h : ∀ a ∈ L, a ≠ p) : Rps (S.hide p) H vs ds L := by
  cases r with
  | nil => exact .nil
  | cons r rs => exact .cons (r.hide fun a ha => h a (List.mem_append_left _ ha)) (rs.hide fun a ha => h a (List.mem_append_right _ ha))
end
mutual
theorem Rp.show' {v : V} {d : D} {L : List Addr} (r : Rp (S.hide p) H v d L) : Rp S H v d L := by
  cases r with
  | non => exact .non
  | bl b => exact .bl b
  | int i => exact .int i
  | str x => exact .str x
  | src => exact .src
  | dct e => exact .dct e
  | rng e => exact .rng e
  | tup e rs => exact .tup e rs.show'
  | tupk e hd rs => exact .tupk e hd rs.show'
  | lst e n rs => exact .lst e (fun z => n (.inl z)) rs.show'
theorem Rps.show' {vs : List V} {ds : List D} {L : List Addr} (r : Rps (S.hide p) H vs ds L) : Rps S H vs ds L := by
  cases r with
  | nil => exact .nil
  | cons r rs => exact .cons r.show' rs.show'
end
theorem SrcOk.hide {st : Src} (h : SrcOk S H st) (hp : H p ≠ none) : SrcOk (S.hide p) H st := ⟨h.ne, h.at_, h.cp, fun b hb => hb.elim (h.tr b) fun z => z ▸ hp⟩
theorem SrcOk.show' {st : Src} (h : SrcOk (S.hide p) H st) : SrcOk S H st := ⟨h.ne, h.at_, h.cp, fun b hb => h.tr b (.inl hb)⟩
theorem Rs.hide {σ : L2.St} {δ : Ev} (r : Rs S H σ δ) (h : ∀ xs, H p ≠ some (.lst xs)) : Rs (S.hide p) H σ δ := ⟨r.len, fun i d e => by
  obtain ⟨v, L, h1, h2⟩ := r.at_ i d e
  exact ⟨v, L, h1, h2.hide fun a ha z => by
    obtain ⟨_, xs, q⟩ := h2.ne a ha
    exact h xs (z ▸ q)⟩⟩
end

/-- J yields the data ds; La: the lists that it leans on -/
structure Wk (S : Sr) (J : It) (H1 : Hp) (ds : List D) (La : List Addr) : Prop where
  la : ∀ a ∈ La, ¬ S.hid a ∧ ∃ xs, H1 a = some (.lst xs)
  go : ∀ i H, HE (fun b => b ∉ La) H1 H → i < ds.length → J.go i H
  yld : ∀ i H x H', HE (fun b => b ∉ La) H1 H → S.tr H → i < ds.length → J.yld i H x H' → ∃ d L, ds[i]? = some d ∧ HE0 H H' ∧ Rp S H' x d L ∧ ∀ a ∈ L, a ∈ La
  stop : ∀ i H, HE (fun b => b ∉ La) H1 H → ds.length ≤ i → J.stop i H
abbrev FI := Ev → M (List D)
def tI (h : FI) : TI := fun σ H R => ∃ S δ st ds st', Rs S H σ δ ∧ SrcOk S H st ∧ h δ st = some (ds, st') ∧ ∀ J H1 La, Ext S H H1 → SrcOk S H1 st' → Wk S J H1 ds La → R J H1
/-- .. whose lists are new -/
def tIF (h : FI) : TI := fun σ H R => ∃ S δ st ds st', Rs S H σ δ ∧ SrcOk S H st ∧ h δ st = some (ds, st') ∧ ∀ J H1 La, Ext S H H1 → SrcOk S H1 st' → Wk S J H1 ds La → (∀ a ∈ La, H a = none) → R J H1
abbrev DI (X : Cx) (tg e : Expr) (h : FI) : Prop := PI X tg e (tI h)
abbrev DIF (X : Cx) (tg e : Expr) (h : FI) : Prop := PI X tg e (tIF h)
theorem dif {X : Cx} {tg e : Expr} {h : FI} (p : DIF X tg e h) : DI X tg e h := p.imp fun σ H R ⟨S, δ, st, ds, st', rs, so, e, q⟩ => ⟨S, δ, st, ds, st', rs, so, e, fun J H1 La x1 so1 wk _ => q J H1 La x1 so1 wk⟩

def iSeq (f : FE) : FI := fun δ => (f δ).bd fun d => M.of d.items
theorem wk_lst {K : PySem.W.Frag} {S : Sr} {H : Hp} {a : Addr} {vs : List V} {ds : List D} {L : List Addr} (h : H a = some (.lst vs)) (n : ¬ S.hid a) (r : Rps S H vs ds L) : Wk S (Itl K a) H ds (a :: L) where
  la := fun b hb => by
    rcases List.mem_cons.mp hb with rfl | hb
    · exact ⟨n, _, h⟩
    · exact r.ne b hb
  go := fun i H' k hi => by
    have e := k.lst a _ (fun z => z List.mem_cons_self) h
    have hi' : i < vs.length := by rw [r.len]; exact hi
    exact ⟨vs, vs[i], SqL.of e, by simp [hi']⟩
  yld := fun i H' x H2 k tr hi ⟨e1, e2⟩ => by
    subst e1
    have e := k.lst a _ (fun z => z List.mem_cons_self) h
    obtain ⟨v, L', h1, h2, h3⟩ := r.get (List.getElem?_eq_getElem hi)
    have hx := e2 vs (SqL.of e)
    rw [h1] at hx
    cases hx
    exact ⟨_, L', List.getElem?_eq_getElem hi, HE.refl, h2.ext k (fun b hb z => z (List.mem_cons_of_mem _ (h3 b hb))), fun b hb => List.mem_cons_of_mem _ (h3 b hb)⟩
  stop := fun i H' k hi => ⟨vs, SqL.of (k.lst a _ (fun z => z List.mem_cons_self) h), by rw [r.len]; exact hi⟩
theorem HE.rdt {W : Addr → Prop} {H H' : Hp} {a : Addr} {vs : List V} (k : HE W H H') (h : Rd H a (.tup vs)) : Rd H' a (.tup vs) := h.elim (fun z => .inl (k.tup a _ z)) fun ⟨o, z⟩ => .inr ⟨o, k.fz a o _ z⟩
theorem wk_tup {K : PySem.W.Frag} {S : Sr} {H : Hp} {a : Addr} {vs : List V} {ds : List D} {L : List Addr} (h : Rd H a (.tup vs)) (r : Rps S H vs ds L) : Wk S (Itt K a) H ds L where
  la := r.ne
  go := fun i H' k hi => by
    have e := k.rdt h
    have hi' : i < vs.length := by rw [r.len]; exact hi
    exact ⟨vs, vs[i], .inl e, by simp [hi']⟩
  yld := fun i H' x H2 k tr hi ⟨e1, e2⟩ => by
    subst e1
    have e := k.rdt h
    obtain ⟨v, L', h1, h2, h3⟩ := r.get (List.getElem?_eq_getElem hi)
    have hx := e2 vs (.inl e)
    rw [h1] at hx
    cases hx
    exact ⟨_, L', List.getElem?_eq_getElem hi, HE.refl, h2.ext k (fun b hb z => z (h3 b hb)), h3⟩
  stop := fun i H' k hi => ⟨vs, .inl (k.rdt h), by rw [r.len]; exact hi⟩
/-- a list of pairs (i, item) -/
def enumD : Nat → List D → List D
  | _, [] => []
  | i, d :: ds => .tup [.int (i : Nat), d] :: enumD (i + 1) ds
theorem enumD_len : ∀ (ds : List D) (i : Nat), (enumD i ds).length = ds.length
  | [], _ => rfl
  | d :: ds, i => by simp [enumD, enumD_len ds]
theorem enumD_get : ∀ (ds : List D) (k i : Nat), (enumD k ds)[i]? = ds[i]?.map fun d => .tup [.int ((k + i : Nat) : Int), d]
  | [], _, _ => by simp [enumD]
  | d :: ds, k, 0 => by simp [enumD]
  | d :: ds, k, i + 1 => by
    simp only [enumD, List.getElem?_cons_succ]
    rw [enumD_get ds (k + 1) i, show k + 1 + i = k + (i + 1) by omega]
theorem wk_enumL {K : PySem.W.Frag} {S : Sr} {H : Hp} {a : Addr} {vs : List V} {ds : List D} {L : List Addr} (h : H a = some (.lst vs)) (n : ¬ S.hid a) (r : Rps S H vs ds L) : Wk S (Ite K a) H (enumD 0 ds) (a :: L) where
  la := (wk_lst (K := K) h n r).la
  go := fun i H' k hi => (wk_lst (K := K) h n r).go i H' k (by rwa [enumD_len] at hi)
  yld := fun i H' x H2 k tr hi ⟨T, y, e1, e2, e3, e4⟩ => by
    subst e1 e3
    rw [enumD_len] at hi
    obtain ⟨d, L', h1, _, h3, h4⟩ := (wk_lst (K := K) h n r).yld i H' y H' k tr hi ⟨rfl, e4⟩
    refine ⟨.tup [.int (i : Nat), d], L', by rw [enumD_get, h1]; simp, HE.fresh e2, ?_, h4⟩
    have q := Rps.cons (Rp.int (S := S) (H := upd H' T (.tup [.int (i : Nat), y])) (i : Nat)) (Rps.one (h3.ext0 (HE.fresh e2)))
    exact .tup (.inl upd_same) (by simpa using q)
  stop := fun i H' k hi => (wk_lst (K := K) h n r).stop i H' k (by rwa [enumD_len] at hi)
theorem wk_enumT {K : PySem.W.Frag} {S : Sr} {H : Hp} {a : Addr} {vs : List V} {ds : List D} {L : List Addr} (h : Rd H a (.tup vs)) (r : Rps S H vs ds L) : Wk S (IteT K a) H (enumD 0 ds) L where
  la := r.ne
  go := fun i H' k hi => (wk_tup (K := K) h r).go i H' k (by rwa [enumD_len] at hi)
  yld := fun i H' x H2 k tr hi ⟨T, y, e1, e2, e3, e4⟩ => by
    subst e1 e3
    rw [enumD_len] at hi
    obtain ⟨d, L', h1, _, h3, h4⟩ := (wk_tup (K := K) h r).yld i H' y H' k tr hi ⟨rfl, e4⟩
    refine ⟨.tup [.int (i : Nat), d], L', by rw [enumD_get, h1]; simp, HE.fresh e2, ?_, h4⟩
    have q := Rps.cons (Rp.int (S := S) (H := upd H' T (.tup [.int (i : Nat), y])) (i : Nat)) (Rps.one (h3.ext0 (HE.fresh e2)))
    exact .tup (.inl upd_same) (by simpa using q)
  stop := fun i H' k hi => (wk_tup (K := K) h r).stop i H' k (by rwa [enumD_len] at hi)
/-- a range's ints -/
def rngD (lo : Int) : Nat → List D
  | 0 => []
  | n + 1 => .int lo :: rngD (lo + 1) n
theorem rngD_len : ∀ (n : Nat) (lo : Int), (rngD lo n).length = n
  | 0, _ => rfl
  | n + 1, lo => by simp [rngD, rngD_len n]
theorem rngD_get : ∀ (n : Nat) (lo : Int) (i : Nat), i < n → (rngD lo n)[i]? = some (.int (lo + (i : Nat)))
  | n + 1, lo, 0, _ => by simp [rngD]
  | n + 1, lo, i + 1, h => by
    simp only [rngD, List.getElem?_cons_succ]
    rw [rngD_get n (lo + 1) i (by omega), show lo + 1 + (i : Int) = lo + ((i + 1 : Nat) : Int) by omega]
theorem wk_rng {S : Sr} {H : Hp} (lo : Int) (n : Nat) : Wk S (Itr lo n) H (rngD lo n) [] where
  la := fun _ h => nomatch h
  go := fun i H' k hi => by rw [rngD_len] at hi; exact hi
  yld := fun i H' x H2 k tr hi ⟨e1, e2⟩ => by
    subst e1 e2
    rw [rngD_len] at hi
    exact ⟨_, [], rngD_get n lo i hi, HE.refl, .int _, fun _ h => h⟩
  stop := fun i H' k hi => by rw [rngD_len] at hi; exact hi
def zipD : List D → List D → List D
  | d :: ds, e :: es => .tup [d, e] :: zipD ds es
  | _, _ => []
theorem zipD_get : ∀ (ds es : List D) (i : Nat) (d e : D), ds[i]? = some d → es[i]? = some e → (zipD ds es)[i]? = some (.tup [d, e])
  | d :: ds, e :: es, 0, _, _, h1, h2 => by cases h1; cases h2; rfl
  | d :: ds, e :: es, i + 1, _, _, h1, h2 => by
    simp only [zipD, List.getElem?_cons_succ] at *
    exact zipD_get ds es i _ _ h1 h2
  | [], _, _, _, _, h1, _ => by simp at h1
  | _ :: _, [], _, _, _, _, h2 => by simp at h2
theorem zipD_len : ∀ (ds es : List D), (zipD ds es).length = min ds.length es.length
  | [], es => by simp [zipD]
  | d :: ds, [] => by simp [zipD]
  | d :: ds, e :: es => by simp [zipD, zipD_len ds es]
theorem wk_zipT {K : PySem.W.Frag} {S : Sr} {H : Hp} {a b : Addr} {vs ws : List V} {ds es : List D} {L L' : List Addr} (h : Rd H a (.tup vs)) (r : Rps S H vs ds L) (h' : Rd H b (.tup ws)) (r' : Rps S H ws es L') : Wk S (ItzT K a b) H (zipD ds es) (L ++ L') where
  la := fun c hc => (List.mem_append.mp hc).elim (r.ne c) (r'.ne c)
  go := fun i H1 k hi => by
    rw [zipD_len] at hi
    have h1 : i < vs.length := by rw [r.len]; omega
    have h2 : i < ws.length := by rw [r'.len]; omega
    exact ⟨vs, ws, vs[i], ws[i], .inl (k.rdt h), .inl (k.rdt h'), by simp [h1], by simp [h2]⟩
  yld := fun i H1 x H2 k tr hi ⟨T, y, z, e1, e2, e3, e4, e5⟩ => by
    subst e1 e3
    rw [zipD_len] at hi
    have h1 : i < ds.length := by omega
    have h2 : i < es.length := by omega
    obtain ⟨v, L1, p1, p2, p3⟩ := r.get (List.getElem?_eq_getElem h1)
    obtain ⟨w, L2', q1, q2, q3⟩ := r'.get (List.getElem?_eq_getElem h2)
    have hx := e4 vs (.inl (k.rdt h))
    rw [p1] at hx
    cases hx
    have hy := e5 ws (.inl (k.rdt h'))
    rw [q1] at hy
    cases hy
    have he : HE0 H1 (upd H1 T (.tup [y, z])) := HE.fresh e2
    have rv := (p2.ext k (fun c hc m => m (List.mem_append_left _ (p3 c hc)))).ext0 he
    have rw' := (q2.ext k (fun c hc m => m (List.mem_append_right _ (q3 c hc)))).ext0 he
    exact ⟨_, L1 ++ L2', zipD_get ds es i _ _ (List.getElem?_eq_getElem h1) (List.getElem?_eq_getElem h2), he, .tup (.inl upd_same) (.cons rv (Rps.one rw')), fun c hc => (List.mem_append.mp hc).elim (fun m => List.mem_append_left _ (p3 c m)) fun m => List.mem_append_right _ (q3 c m)⟩
  stop := fun i H1 k hi => by
    rw [zipD_len] at hi
    exact ⟨vs, ws, .inl (k.rdt h), .inl (k.rdt h'), by rw [r.len, r'.len]; omega⟩
theorem wk_zipL {K : PySem.W.Frag} {S : Sr} {H : Hp} {a b : Addr} {vs ws : List V} {ds es : List D} {L L' : List Addr} (h : H a = some (.lst vs)) (n : ¬ S.hid a) (r : Rps S H vs ds L) (h' : H b = some (.lst ws)) (n' : ¬ S.hid b) (r' : Rps S H ws es L') : Wk S (Itz K a b) H (zipD ds es) ((a :: L) ++ (b :: L')) where
  la := fun c hc => (List.mem_append.mp hc).elim (fun m => (List.mem_cons.mp m).elim (fun e => e ▸ ⟨n, _, h⟩) (r.ne c)) (fun m => (List.mem_cons.mp m).elim (fun e => e ▸ ⟨n', _, h'⟩) (r'.ne c))
  go := fun i H1 k hi => by
    rw [zipD_len] at hi
    have h1 : i < vs.length := by rw [r.len]; omega
    have h2 : i < ws.length := by rw [r'.len]; omega
    exact ⟨vs, ws, vs[i], ws[i], SqL.of (k.lst a _ (fun z => z (by simp)) h), SqL.of (k.lst b _ (fun z => z (by simp)) h'), by simp [h1], by simp [h2]⟩
  yld := fun i H1 x H2 k tr hi ⟨T, y, z, e1, e2, e3, e4, e5⟩ => by
    subst e1 e3
    rw [zipD_len] at hi
    have h1 : i < ds.length := by omega
    have h2 : i < es.length := by omega
    obtain ⟨v, L1, p1, p2, p3⟩ := r.get (List.getElem?_eq_getElem h1)
    obtain ⟨w, L2', q1, q2, q3⟩ := r'.get (List.getElem?_eq_getElem h2)
    have hx := e4 vs (SqL.of (k.lst a _ (fun z => z (by simp)) h))
    rw [p1] at hx
    cases hx
    have hy := e5 ws (SqL.of (k.lst b _ (fun z => z (by simp)) h'))
    rw [q1] at hy
    cases hy
    have he : HE0 H1 (upd H1 T (.tup [y, z])) := HE.fresh e2
    have rv := (p2.ext k (fun c hc m => m (List.mem_append_left _ (List.mem_cons_of_mem _ (p3 c hc))))).ext0 he
    have rw' := (q2.ext k (fun c hc m => m (List.mem_append_right _ (List.mem_cons_of_mem _ (q3 c hc))))).ext0 he
    exact ⟨_, L1 ++ L2', zipD_get ds es i _ _ (List.getElem?_eq_getElem h1) (List.getElem?_eq_getElem h2), he, .tup (.inl upd_same) (.cons rv (Rps.one rw')), fun c hc => (List.mem_append.mp hc).elim (fun m => List.mem_append_left _ (List.mem_cons_of_mem _ (p3 c m))) fun m => List.mem_append_right _ (List.mem_cons_of_mem _ (q3 c m))⟩
  stop := fun i H1 k hi => by
    rw [zipD_len] at hi
    exact ⟨vs, ws, SqL.of (k.lst a _ (fun z => z (by simp)) h), SqL.of (k.lst b _ (fun z => z (by simp)) h'), by rw [r.len, r'.len]; omega⟩

section
variable {X : Cx} {tg : Expr}
theorem _root_.L2.PI.or {e : Expr} {t t' : TI} (p : PI X tg e t) (p' : PI X tg e t') : PI X tg e (fun σ H R => t σ H R ∨ t' σ H R) := ⟨fun pins s σ H R I w => w.elim (p.run pins s σ H R I) (p'.run pins s σ H R I)⟩
theorem di_seq {e : Expr} {f : FE} (he : DE X e f) : DI X tg e (iSeq f) := ((pi_list he).or (pi_tup he)).imp fun σ H R ⟨S, δ, st, ds, st', rs, so, e, q⟩ => by
  obtain ⟨d, s1, ea, e⟩ := bd_inv e
  obtain ⟨eo, es⟩ := of_inv e
  subst es
  cases d with
  | lst xs =>
    cases eo
    refine .inl ⟨S, δ, st, _, _, rs, so, ea, fun v H1 L x1 so1 r => ?_⟩
    obtain ⟨a, vs, L1, rfl, ha, na, rs', rfl⟩ := r.ilst
    exact ⟨a, rfl, ⟨vs, SqL.of ha⟩, q _ H1 _ x1 so1 (wk_lst ha na rs')⟩
  | tup xs =>
    cases eo
    refine .inr ⟨S, δ, st, _, _, rs, so, ea, fun v H1 L x1 so1 r => ?_⟩
    obtain ⟨a, vs, rfl, ha, rs'⟩ := r.itup
    exact ⟨a, rfl, ⟨vs, (.inl ha)⟩, q _ H1 _ x1 so1 (wk_tup ha rs')⟩
  | tupk xs =>
    cases eo
    refine .inr ⟨S, δ, st, _, _, rs, so, ea, fun v H1 L x1 so1 r => ?_⟩
    obtain ⟨a, ob, vs, rfl, ha, _, rs'⟩ := r.itupk
    exact ⟨a, rfl, ⟨vs, .inl (.inr ⟨_, ha⟩)⟩, q _ H1 _ x1 so1 (wk_tup (.inr ⟨_, ha⟩) rs')⟩
  | _ => cases eo
def rg1 : List D → Option (List D)
  | [.int j] => if j.natAbs ≤ 1000000 then some (rngD 0 j.toNat) else none
  | _ => none
def rg2 : List D → Option (List D)
  | [.int i, .int j] => if i.natAbs ≤ 1000000 ∧ j.natAbs ≤ 1000000 then some (rngD i (j - i).toNat) else none
  | _ => none
def iOf (o : List D → Option (List D)) (fs : Ev → M (List D)) : FI := fun δ => (fs δ).bd fun ds => M.of (o ds)
theorem dif_range1 {a : Expr} {fs : Ev → M (List D)} {p pos : Pos} (hg : Gl X "range") (hm : X.mg "range" = none) (ha : DA X [a] fs) (hs : starEach [a] X.env = [(false, eval a X.env)] := by rfl) : DIF X tg (.Call (.Name "range" p) [a] [] pos) (iOf rg1 fs) :=
  (pi_range1 hg hm ha hs).imp fun σ H R ⟨S, δ, st, ds, st', rs, so, e, q⟩ => by
  obtain ⟨xs, s1, ea, e⟩ := bd_inv e
  obtain ⟨eo, es⟩ := of_inv e
  subst es
  refine ⟨S, δ, st, xs, _, rs, so, ea, fun vs H1 L x1 so1 r => ?_⟩
  match xs, eo with
  | [.int j], eo =>
    have eo : (if j.natAbs ≤ 1000000 then some (rngD 0 j.toNat) else none) = some ds := eo
    obtain ⟨v, rfl, r1⟩ := r.i1
    obtain ⟨rfl, rfl⟩ := r1.iint
    by_cases h : j.natAbs ≤ 1000000
    · rw [if_pos h] at eo
      cases eo
      exact ⟨j, rfl, by omega, by omega, q _ H1 [] x1 so1 (wk_rng 0 j.toNat) (fun _ z => nomatch z)⟩
    · rw [if_neg h] at eo; cases eo
theorem dif_range2 {a b : Expr} {fs : Ev → M (List D)} {p pos : Pos} (hg : Gl X "range") (hm : X.mg "range" = none) (ha : DA X [a, b] fs) (hs : starEach [a, b] X.env = [(false, eval a X.env), (false, eval b X.env)] := by rfl) (hs2 : starEach [b] X.env = [(false, eval b X.env)] := by rfl) :
    DIF X tg (.Call (.Name "range" p) [a, b] [] pos) (iOf rg2 fs) :=
  (pi_range2 hg hm ha hs hs2).imp fun σ H R ⟨S, δ, st, ds, st', rs, so, e, q⟩ => by
  obtain ⟨xs, s1, ea, e⟩ := bd_inv e
  obtain ⟨eo, es⟩ := of_inv e
  subst es
  refine ⟨S, δ, st, xs, _, rs, so, ea, fun vs H1 L x1 so1 r => ?_⟩
  match xs, eo with
  | [.int i, .int j], eo =>
    have eo : (if i.natAbs ≤ 1000000 ∧ j.natAbs ≤ 1000000 then some (rngD i (j - i).toNat) else none) = some ds := eo
    obtain ⟨v, u, L1, L2', rfl, r1, r2⟩ := r.i2
    obtain ⟨rfl, rfl⟩ := r1.iint
    obtain ⟨rfl, rfl⟩ := r2.iint
    by_cases h : i.natAbs ≤ 1000000 ∧ j.natAbs ≤ 1000000
    · rw [if_pos h] at eo
      cases eo
      exact ⟨i, j, rfl, ⟨by omega, by omega, by omega, by omega⟩, q _ H1 [] x1 so1 (wk_rng i (j - i).toNat) (fun _ z => nomatch z)⟩
    · rw [if_neg h] at eo; cases eo
def en1 : List D → Option (List D)
  | [d] => d.items.map (enumD 0)
  | _ => none
theorem di_enum {e : Expr} {fs : Ev → M (List D)} {p pos tpos : Pos} {elts : List Expr} {kk : Nat} (hg : Gl X "enumerate") (hm : X.mg "enumerate" = none) (ha : DA X [e] fs) (hs : starEach [e] X.env = [(false, eval e X.env)] := by rfl) :
    DI X (.Tuple elts kk tpos) (.Call (.Name "enumerate" p) [e] [] pos) (iOf en1 fs) := ((pi_enum hg hm ha hs).or (pi_enumT hg hm ha hs)).imp fun σ H R ⟨S, δ, st, ds, st', rs, so, e, q⟩ => by
  obtain ⟨xs, s1, ea, e⟩ := bd_inv e
  obtain ⟨eo, es⟩ := of_inv e
  subst es
  match xs, eo with
  | [d], eo =>
    obtain ⟨ys, e1, e2⟩ := Option.map_eq_some_iff.mp (show d.items.map (enumD 0) = some ds from eo)
    subst e2
    cases d with
    | lst xs =>
      cases e1
      refine .inl ⟨S, δ, st, _, _, rs, so, ea, fun vs H1 L x1 so1 r => ?_⟩
      obtain ⟨v, rfl, r1⟩ := r.i1
      obtain ⟨a, vs, L1, rfl, ha, na, rs', rfl⟩ := r1.ilst
      exact ⟨a, vs, rfl, SqL.of ha, q _ H1 _ x1 so1 (wk_enumL ha na rs')⟩
    | tup xs =>
      cases e1
      refine .inr ⟨S, δ, st, _, _, rs, so, ea, fun vs H1 L x1 so1 r => ?_⟩
      obtain ⟨v, rfl, r1⟩ := r.i1
      obtain ⟨a, vs, rfl, ha, rs'⟩ := r1.itup
      exact ⟨a, vs, rfl, (.inl ha), q _ H1 _ x1 so1 (wk_enumT ha rs')⟩
    | tupk xs =>
      cases e1
      refine .inr ⟨S, δ, st, _, _, rs, so, ea, fun vs H1 L x1 so1 r => ?_⟩
      obtain ⟨v, rfl, r1⟩ := r.i1
      obtain ⟨a, ob, vs, rfl, ha, _, rs'⟩ := r1.itupk
      exact ⟨a, vs, rfl, .inl (.inr ⟨_, ha⟩), q _ H1 _ x1 so1 (wk_enumT (.inr ⟨_, ha⟩) rs')⟩
    | _ => cases e1
def zp2 : List D → Option (List D)
  | [.tup xs, .tup ys] => some (zipD xs ys)
  | [.lst xs, .lst ys] => some (zipD xs ys)
  | _ => none
theorem di_zip {e e2 : Expr} {fs : Ev → M (List D)} {p pos tpos : Pos} {elts : List Expr} {kk : Nat} (hg : Gl X "zip") (hm : X.mg "zip" = none) (ha : DA X [e, e2] fs)
    (hs : starEach [e, e2] X.env = (false, eval e X.env) :: starEach [e2] X.env := by rfl) (hpl : (backTo pos (starEach [e2] X.env)).any (·.1) = false := by rfl) :
    DI X (.Tuple elts kk tpos) (.Call (.Name "zip" p) [e, e2] [] pos) (iOf zp2 fs) := (pi_zipA hg hm ha hs hpl).imp fun σ H R ⟨S, δ, st, ds, st', rs, so, e, q⟩ => by
  obtain ⟨xs, s1, ea, e⟩ := bd_inv e
  obtain ⟨eo, es⟩ := of_inv e
  subst es
  refine ⟨S, δ, st, xs, _, rs, so, ea, fun vs H1 L x1 so1 r => ?_⟩
  match xs, eo with
  | [.tup xs, .tup ys], eo =>
    cases eo
    obtain ⟨v, u, L1, L2', rfl, r1, r2⟩ := r.i2
    obtain ⟨a, vs, rfl, ha, rs1⟩ := r1.itup
    obtain ⟨b, ws, rfl, hb, rs2⟩ := r2.itup
    exact ⟨a, b, vs, ws, rfl, .inr ⟨(.inl ha), (.inl hb), q _ H1 _ x1 so1 (wk_zipT ha rs1 hb rs2)⟩⟩
  | [.lst xs, .lst ys], eo =>
    cases eo
    obtain ⟨v, u, L1, L2', rfl, r1, r2⟩ := r.i2
    obtain ⟨a, vs, La, rfl, ha, na, rs1, rfl⟩ := r1.ilst
    obtain ⟨b, ws, Lb, rfl, hb, nb, rs2, rfl⟩ := r2.ilst
    exact ⟨a, b, vs, ws, rfl, .inl ⟨SqL.of ha, SqL.of hb, q _ H1 _ x1 so1 (wk_zipL ha na rs1 hb nb rs2)⟩⟩

/-! ### tuples without lists, for loops of statements -/
def lfT : D → Option (List D)
  | .tup xs => if lfs xs = true then some xs else none
  | .tupk xs => if lfs xs = true then some xs else none
  | _ => none
theorem Rp.rdt {S : Sr} {H : Hp} {v : V} {d : D} {L : List Addr} {xs : List D} (r : Rp S H v d L) (h : d = .tup xs ∨ d = .tupk xs) : ∃ a vs, v = .ref a ∧ Rd H a (.tup vs) ∧ Rps S H vs xs L := by
  rcases h with rfl | rfl
  · obtain ⟨a, vs, h1, h2, h3⟩ := r.itup
    exact ⟨a, vs, h1, h2, h3⟩
  · obtain ⟨a, o, vs, h1, h2, _, h3⟩ := r.itupk
    exact ⟨a, vs, h1, .inr ⟨o, h2⟩, h3⟩
theorem lfT_inv {d : D} {xs : List D} (h : lfT d = some xs) : (d = .tup xs ∨ d = .tupk xs) ∧ lfs xs = true := by
  cases d with
  | tupk ys =>
    have h : (if lfs ys = true then some ys else none) = some xs := h
    by_cases hl : lfs ys = true
    · rw [if_pos hl] at h; cases h; exact ⟨.inr rfl, hl⟩
    · rw [if_neg hl] at h; cases h
  | tup ys =>
    have h : (if lfs ys = true then some ys else none) = some xs := h
    by_cases hl : lfs ys = true
    · rw [if_pos hl] at h; cases h; exact ⟨.inl rfl, hl⟩
    · rw [if_neg hl] at h; cases h
  | _ => cases h
def iSeqT (f : FE) : FI := fun δ => (f δ).bd fun d => M.of (lfT d)
theorem dif_seq {e : Expr} {f : FE} (he : DE X e f) : DIF X tg e (iSeqT f) := (pi_tup he).imp fun σ H R ⟨S, δ, st, ds, st', rs, so, e, q⟩ => by
  obtain ⟨d, s1, ea, e⟩ := bd_inv e
  obtain ⟨eo, es⟩ := of_inv e
  subst es
  obtain ⟨hd, hl⟩ := lfT_inv eo
  refine ⟨S, δ, st, _, _, rs, so, ea, fun v H1 L x1 so1 r => ?_⟩
  obtain ⟨a, vs, rfl, ha, rs'⟩ := r.rdt hd
  have hL := rs'.nils hl
  subst hL
  exact ⟨a, rfl, ⟨vs, .inl ha⟩, q _ H1 _ x1 so1 (wk_tup ha rs') fun _ z => nomatch z⟩
def en1T : List D → Option (List D)
  | [d] => (lfT d).map (enumD 0)
  | _ => none
theorem dif_enum {e : Expr} {fs : Ev → M (List D)} {p pos tpos : Pos} {elts : List Expr} {kk : Nat} (hg : Gl X "enumerate") (hm : X.mg "enumerate" = none) (ha : DA X [e] fs) (hs : starEach [e] X.env = [(false, eval e X.env)] := by rfl) :
    DIF X (.Tuple elts kk tpos) (.Call (.Name "enumerate" p) [e] [] pos) (iOf en1T fs) := (pi_enumT hg hm ha hs).imp fun σ H R ⟨S, δ, st, ds, st', rs, so, e, q⟩ => by
  obtain ⟨xs, s1, ea, e⟩ := bd_inv e
  obtain ⟨eo, es⟩ := of_inv e
  subst es
  match xs, eo with
  | [d], eo =>
    obtain ⟨ys, e1, e2⟩ := Option.map_eq_some_iff.mp (show (lfT d).map (enumD 0) = some ds from eo)
    subst e2
    obtain ⟨hd, hl⟩ := lfT_inv e1
    refine ⟨S, δ, st, _, _, rs, so, ea, fun vs H1 L x1 so1 r => ?_⟩
    obtain ⟨v, rfl, r1⟩ := r.i1
    obtain ⟨a, vs, rfl, ha, rs'⟩ := r1.rdt hd
    have hL := rs'.nils hl
    subst hL
    exact ⟨a, vs, rfl, .inl ha, q _ H1 _ x1 so1 (wk_enumT ha rs') fun _ z => nomatch z⟩
def zp2T : List D → Option (List D)
  | [d, e] => (lfT d).bind fun xs => (lfT e).map (zipD xs)
  | _ => none
theorem dif_zip {e e2 : Expr} {fs : Ev → M (List D)} {p pos tpos : Pos} {elts : List Expr} {kk : Nat} (hg : Gl X "zip") (hm : X.mg "zip" = none) (ha : DA X [e, e2] fs)
    (hs : starEach [e, e2] X.env = (false, eval e X.env) :: starEach [e2] X.env := by rfl) (hpl : (backTo pos (starEach [e2] X.env)).any (·.1) = false := by rfl) :
    DIF X (.Tuple elts kk tpos) (.Call (.Name "zip" p) [e, e2] [] pos) (iOf zp2T fs) := (pi_zipA hg hm ha hs hpl).imp fun σ H R ⟨S, δ, st, ds, st', rs, so, e, q⟩ => by
  obtain ⟨xs, s1, ea, e⟩ := bd_inv e
  obtain ⟨eo, es⟩ := of_inv e
  subst es
  refine ⟨S, δ, st, xs, _, rs, so, ea, fun vs H1 L x1 so1 r => ?_⟩
  match xs, eo with
  | [d, e], eo =>
    obtain ⟨xs, e1, eo⟩ := Option.bind_eq_some_iff.mp (show (lfT d).bind (fun xs => (lfT e).map (zipD xs)) = some ds from eo)
    obtain ⟨ys, e2, e3⟩ := Option.map_eq_some_iff.mp eo
    subst e3
    obtain ⟨hd, hl⟩ := lfT_inv e1
    obtain ⟨hd2, hl2⟩ := lfT_inv e2
    obtain ⟨v, u, L1, L2', rfl, r1, r2⟩ := r.i2
    obtain ⟨a, vs, rfl, ha, rs1⟩ := r1.rdt hd
    obtain ⟨b, ws, rfl, hb, rs2⟩ := r2.rdt hd2
    have hL := rs1.nils hl
    have hL2 := rs2.nils hl2
    subst hL hL2
    exact ⟨a, b, vs, ws, rfl, .inr ⟨.inl ha, .inl hb, q _ H1 _ x1 so1 (wk_zipT ha rs1 hb rs2) fun _ z => nomatch z⟩⟩
end

/-! ### targets (in a comprehension) -/
def tGd (vs : List Nat) (g : D → Ev → Option Ev) : TG := fun v σ H Q => ∃ S δ d L δ', Rs S H σ δ ∧ Rp S H v d L ∧ g d δ = some δ' ∧ ∀ σ', (∀ j, j ∉ vs → σ'[j]? = σ[j]?) → σ'.length = σ.length → Rs S H σ' δ' → Q σ' H
def tGsd (vs : List Nat) (g : List D → Ev → Option Ev) : TGs := fun xs σ H Q => ∃ S δ ds L δ', Rs S H σ δ ∧ Rps S H xs ds L ∧ g ds δ = some δ' ∧ ∀ σ', (∀ j, j ∉ vs → σ'[j]? = σ[j]?) → σ'.length = σ.length → Rs S H σ' δ' → Q σ' H
abbrev DG (X : Cx) (e : Expr) (vs : List Nat) (g : D → Ev → Option Ev) : Prop := PG X e (tGd vs g)
abbrev DGs (X : Cx) (es : List Expr) (vs : List Nat) (g : List D → Ev → Option Ev) : Prop := PGs X es (tGsd vs g)
theorem _root_.L2.PG.imp {X : Cx} {e : Expr} {t t' : TG} (p : PG X e t) (h : ∀ v σ H Q, t' v σ H Q → t v σ H Q) : PG X e t' := ⟨fun pins s σ H v u Q I r w => p.run pins s σ H v u Q I r (h v σ H Q w)⟩
theorem _root_.L2.PGs.imp {X : Cx} {e : List Expr} {t t' : TGs} (p : PGs X e t) (h : ∀ v σ H Q, t' v σ H Q → t v σ H Q) : PGs X e t' := ⟨fun pins s σ H v u Q I r w => p.run pins s σ H v u Q I r (h v σ H Q w)⟩
def gN (i : Nat) : D → Ev → Option Ev := fun d δ => some (δ.set i (.rd d))
def gs0 : List D → Ev → Option Ev := fun ds δ => match ds with | [] => some δ | _ => none
def gsC (g : D → Ev → Option Ev) (gs : List D → Ev → Option Ev) : List D → Ev → Option Ev := fun ds δ => match ds with | d :: r => (g d δ).bind (gs r) | [] => none
def gT (n : Nat) (gs : List D → Ev → Option Ev) : D → Ev → Option Ev := fun d δ => match d with | .tup ds => if ds.length = n then gs ds δ else none | _ => none
section
variable {X : Cx} {vs ws : List Nat} {pos : Pos}
theorem dg_name {i : Nat} {x : Str} (hN : X.N.Nodup) (hi : X.N[i]? = some x) (hx : Loc X.env.scope x) (hf : X.fn x = true ∨ X.env.scope.names.lookup x = some .local := by first | exact .inl rfl | exact .inr rfl | assumption) : DG X (.Name x pos) [i] (gN i) :=
  (pg_name hN hi hx hf).imp fun v σ H Q ⟨S, δ, d, L, δ', rs, r, e, q⟩ => by
  cases e
  exact q _ (fun j hj => List.getElem?_set_ne (by simpa [eq_comm] using hj)) (by simp) (rs.set fun d' e => by cases e; exact ⟨L, r⟩)
theorem dgs_nil : DGs X [] [] gs0 := pgs_nil.imp fun v σ H Q ⟨S, δ, ds, L, δ', rs, r, e, q⟩ => by
  cases r with
  | nil =>
    cases e
    exact ⟨rfl, q σ (fun _ _ => rfl) rfl rs⟩
  | cons => cases e
theorem dgs_cons {e : Expr} {es : List Expr} {g : D → Ev → Option Ev} {gs : List D → Ev → Option Ev} (h1 : DG X e vs g) (h2 : DGs X es ws gs)
    (hs : (assignEach (e :: es) X.env).map (·.2) = assign e X.env :: (assignEach es X.env).map (·.2) := by rfl) : DGs X (e :: es) (vs ++ ws) (gsC g gs) := (pgs_cons h1 h2 hs).imp fun v σ H Q ⟨S, δ, ds, L, δ', rs, r, e, q⟩ => by
  cases r with
  | nil => cases e
  | cons r rr =>
    obtain ⟨δ1, e1, e2⟩ := Option.bind_eq_some_iff.mp (show (g _ δ).bind (gs _) = some δ' from e)
    exact ⟨_, _, rfl, S, δ, _, _, δ1, rs, r, e1, fun σ' o l rs1 => ⟨S, δ1, _, _, δ', rs1, rr, e2, fun σ2 o2 l2 rs2 => q σ2 (fun j hj => (o2 j fun z => hj (List.mem_append_right _ z)).trans (o j fun z => hj (List.mem_append_left _ z))) (l2.trans l) rs2⟩⟩
theorem dg_tup {es : List Expr} {k : Nat} {n : Nat} {gs : List D → Ev → Option Ev} (hc : X.calm = true) (h : DGs X es vs gs)
    (hn : (assignEach es X.env).length = n := by rfl) (hst : (assignEach es X.env).findIdx? (·.1) = none := by rfl) : DG X (.Tuple es k pos) vs (gT n gs) := (pg_tup hc h hn hst).imp fun v σ H Q ⟨S, δ, d, L, δ', rs, r, e, q⟩ => by
  cases d with
  | tup ds =>
    have e : (if ds.length = n then gs ds δ else none) = some δ' := e
    obtain ⟨a, vs', rfl, ha, rr⟩ := r.itup
    by_cases hl : ds.length = n
    · rw [if_pos hl] at e
      exact ⟨a, vs', rfl, (.inl ha), rr.len.trans hl, S, δ, ds, L, δ', rs, rr, e, q⟩
    · rw [if_neg hl] at e; cases e
  | _ => cases e
end

/-! ### list comprehensions -/
def wipeE (δ : Ev) : List Nat → Ev
  | [] => δ
  | v :: vs => (wipeE δ vs).set v .no
theorem Rs.setNo {S : Sr} {H : Hp} {σ : L2.St} {δ : Ev} (r : Rs S H σ δ) (i : Nat) : Rs S H (σ.set i none) (δ.set i .no) := ⟨by simp [r.len], fun j d e => by
  rw [gt_set] at e
  by_cases hij : i = j
  · subst hij
    rw [if_pos rfl] at e
    split at e <;> cases e
  · rw [if_neg hij] at e
    obtain ⟨w, L, h1, h2⟩ := r.at_ j d e
    exact ⟨w, L, by rw [List.getElem?_set_ne hij]; exact h1, h2⟩⟩
theorem Rs.wipe {S : Sr} {H : Hp} {σ : L2.St} {δ : Ev} (r : Rs S H σ δ) : ∀ vs : List Nat, Rs S H (wipe σ vs) (wipeE δ vs)
  | [] => r
  | v :: vs => (r.wipe vs).setNo v
theorem wipe_get {σ : L2.St} {j : Nat} : ∀ vs : List Nat, (wipe σ vs)[j]? = if j ∈ vs then (if j < σ.length then some none else none) else σ[j]?
  | [] => by simp [wipe]
  | v :: vs => by
    unfold wipe
    by_cases h : v = j
    · subst h
      rw [if_pos (by simp)]
      by_cases hl : v < σ.length
      · rw [if_pos hl, List.getElem?_set_self (by rw [wipe_length]; exact hl)]
      · rw [if_neg hl, List.getElem?_eq_none (by simpa [wipe_length] using hl)]
    · rw [List.getElem?_set_ne h, wipe_get vs]
      by_cases hm : j ∈ vs
      · rw [if_pos hm, if_pos (List.mem_cons_of_mem _ hm)]
      · rw [if_neg hm, if_neg (by simp [hm, Ne.symm h])]
theorem wipe_eq {σ τ : L2.St} {vs : List Nat} (h : ∀ j, j ∉ vs → τ[j]? = (wipe σ vs)[j]?) (l : τ.length = (wipe σ vs).length) : wipe τ vs = wipe σ vs := by
  rw [wipe_length] at l
  refine List.ext_getElem? fun j => ?_
  rw [wipe_get, wipe_get, l]
  by_cases hm : j ∈ vs
  · rw [if_pos hm, if_pos hm]
  · rw [if_neg hm, if_neg hm, h j hm, wipe_get, if_neg hm]
def bYes : Ev → M Bool := fun _ => M.ret true
abbrev DTs (X : Cx) (ifs : List Expr) (f : Ev → M Bool) : Prop := PTs X ifs (tBo f)
theorem _root_.L2.PTs.imp {X : Cx} {e : List Expr} {t t' : TT} (p : PTs X e t) (h : ∀ σ H Q, t' σ H Q → t σ H Q) : PTs X e t' := ⟨fun pins s σ H Q I w => p.run pins s σ H Q I (h σ H Q w)⟩
theorem dts_nil {X : Cx} : DTs X [] bYes := pts_nil.imp fun σ H Q ⟨S, δ, st, d, st', rs, so, e, q⟩ => by
  obtain ⟨e1, e2⟩ := ret_inv e
  subst e1 e2
  exact q H HE.refl so
theorem dts_one {X : Cx} {c : Expr} {f : Ev → M Bool} (h : DT X c f) : DTs X [c] f := pts_one h
/-- the items of a comprehension -/
def cLp (vs : List Nat) (g : D → Ev → Option Ev) (tt : Ev → M Bool) (te : FE) (δ : Ev) : List D → M (List D)
  | [] => M.ret []
  | x :: xs => (M.of (g x (wipeE δ vs))).bd fun δ1 => (tt δ1).bd fun b => if b = true then (te δ1).bd fun y => (cLp vs g tt te δ xs).bd fun ys => M.ret (y :: ys) else cLp vs g tt te δ xs
def eLc (h : FI) (vs : List Nat) (g : D → Ev → Option Ev) (tt : Ev → M Bool) (te : FE) : FE := fun δ => (h δ).bd fun ds => if ds.length ≤ 1000000 then (cLp vs g tt te δ ds).bd fun ys => M.ret (.lst ys) else M.no
theorem HE.out {W : Addr → Prop} {H1 H : Hp} {p : Addr} {o : HO} (h : HE W H1 H) (n : H1 p = none) : HE W H1 (upd H p o) :=
  ⟨fun b xs e => by rw [upd_ne (ne_of_none e n)]; exact h.tup b xs e, fun b xs w e => by rw [upd_ne (ne_of_none e n)]; exact h.lst b xs w e, fun b e => by
    by_cases hb : b = p
    · subst hb; exact n
    · rw [upd_ne hb] at e; exact h.new b e, fun b xs e => by rw [upd_ne (ne_of_none e n)]; exact h.dk b xs e, fun b o u e => by rw [upd_ne (ne_of_none e n)]; exact h.fz b o u e⟩
theorem HE.writeN {H : Hp} {p : Addr} {xs ys : List V} (h : H p = some (.lst xs)) : HE (fun b => b = p) H (upd H p (.lst ys)) := HE.write h rfl
theorem SrcOk.writeN {S : Sr} {H : Hp} {st : Src} {p : Addr} {ys : List V} (h : SrcOk (S.hide p) H st) (n : p ≠ S.dA) (nq : p ≠ S.q) : SrcOk (S.hide p) (upd H p (.lst ys)) st :=
  ⟨h.ne, (upd_ne (Ne.symm n)).trans h.at_, (upd_ne (Ne.symm nq)).trans h.cp, fun b hb => by
    by_cases e : b = p
    · subst e; rw [upd_same]; exact fun z => nomatch z
    · rw [upd_ne e]; exact h.tr b hb⟩
theorem tLc_imp {h : FI} {vs : List Nat} {g : D → Ev → Option Ev} {tt : Ev → M Bool} {te : FE} : ∀ σ H Q, tD (eLc h vs g tt te) σ H Q → tLc (tI h) (tGd vs g) (tBo tt) (tD te) vs σ H Q := fun σ H Q ⟨S, δ, st, d, st', rs, so, e, q⟩ => by
  obtain ⟨ds, s1, eh, e⟩ := bd_inv e
  by_cases hz : ds.length ≤ 1000000
  rotate_left
  · rw [if_neg hz] at e; cases e
  rw [if_pos hz] at e
  obtain ⟨all, s2, ec, e⟩ := bd_inv e
  obtain ⟨e1, e2⟩ := ret_inv e
  subst e1 e2
  refine ⟨S, δ, st, ds, s1, rs, so, eh, fun J H1 La x1 so1 wk Dl nD => ?_⟩
  have nA : Dl ≠ S.dA := fun z => so1.tr _ S.hA (z ▸ nD)
  have nq : Dl ≠ S.q := fun z => so1.tr _ S.hQ (z ▸ nD)
  have rs1 : Rs (S.hide Dl) H1 σ δ := (rs.extS x1).hide fun xs z => by rw [nD] at z; cases z
  have laA : ∀ b, b = S.dA → b ∉ La := fun b e hb => (wk.la b hb).1 (e ▸ S.hA)
  refine ⟨fun i m H => m = ds.length - i ∧ i ≤ ds.length ∧ ∃ acc accD L sti ys, H Dl = some (.lst acc) ∧ Rps (S.hide Dl) H acc accD L ∧ acc.length ≤ i ∧ Ext S H1 H ∧ SrcOk (S.hide Dl) H sti ∧ cLp vs g tt te δ (ds.drop i) sti = some (ys, st') ∧ accD ++ ys = all, ⟨ds.length, rfl, Nat.zero_le _, [], [], [], s1, all, upd_same, .nil, Nat.zero_le _, HE.refl.out nD, (so1.ext0 (HE.fresh nD)).hide (by rw [upd_same]; exact fun z => nomatch z), ec, rfl⟩, ?_⟩
  rintro i m H2 ⟨rfl, hi, acc, accD, L, sti, ys, hD, ra, hl, x2, so2, ec2, eall⟩
  have x2' : HE (fun b => b ∉ La) H1 H2 := x2.mono laA
  by_cases hlt : i < ds.length
  · refine .inr ⟨wk.go i H2 x2' hlt, fun H' => (fun i m H => m = ds.length - i ∧ i ≤ ds.length ∧ ∃ acc accD L sti ys, H Dl = some (.lst acc) ∧ Rps (S.hide Dl) H acc accD L ∧ acc.length ≤ i ∧ Ext S H1 H ∧ SrcOk (S.hide Dl) H sti ∧ cLp vs g tt te δ (ds.drop i) sti = some (ys, st') ∧ accD ++ ys = all) (i + 1) (ds.length - (i + 1)) H', fun H' hN => ⟨ds.length - (i + 1), by omega, hN⟩, fun x H3 y => ?_⟩
    obtain ⟨d, Ld, hd, x3, rd, hLd⟩ := wk.yld i H2 x H3 x2' so2.show'.tr hlt y
    have hdrop : ds.drop i = d :: ds.drop (i + 1) := by
      have e1 := List.drop_eq_getElem_cons hlt
      have e2 : ds[i] = d := by
        have := List.getElem?_eq_getElem hlt
        rw [this] at hd
        exact Option.some.inj hd
      rw [e1, e2]
    rw [hdrop, cLp] at ec2
    obtain ⟨δ1, t1, eg0, ec3⟩ := bd_inv ec2
    obtain ⟨eg, et⟩ := of_inv eg0
    clear eg0 ec2
    subst et
    obtain ⟨b, t2, eb, ec2⟩ := bd_inv ec3
    clear ec3
    have x13 : Ext S H1 H3 := x2.trans x3.up0
    have so3 : SrcOk (S.hide Dl) H3 t1 := so2.ext0 x3
    have hD3 : H3 Dl = some (.lst acc) := x3.lst _ _ (fun z => z) hD
    refine ⟨S.hide Dl, wipeE δ vs, d, Ld, δ1, (rs1.extS (S := S.hide Dl) x13).wipe vs, rd.hide fun a ha z => ?_, eg, fun σ2 o2 l2 rs2 => ⟨wipe_eq o2 l2, S.hide Dl, δ1, t1, b, t2, rs2, so3, eb, fun H4 x4 so4 => ?_⟩⟩
    · obtain ⟨_, xs, w⟩ := wk.la a (hLd a ha)
      rw [z, nD] at w
      cases w
    have hD4 : H4 Dl = some (.lst acc) := x4.lst _ _ nA hD3
    have ra4 : Rps (S.hide Dl) H4 acc accD L := (ra.ext0 x3).extS x4
    have x14 : Ext S H1 H4 := x13.trans x4
    cases b with
    | false =>
      rw [if_neg Bool.false_ne_true] at ec2
      refine iteF ?_
      exact ⟨rfl, hlt, acc, accD, L, t2, ys, hD4, ra4, by omega, x14, so4, ec2, eall⟩
    | true =>
      rw [if_pos rfl] at ec2
      refine iteT ?_
      obtain ⟨yD, t3, ey, ec4⟩ := bd_inv ec2
      obtain ⟨ys', t4, er, ec5⟩ := bd_inv ec4
      obtain ⟨e1, e2⟩ := ret_inv ec5
      clear ec2 ec4 ec5
      subst e1 e2
      refine ⟨S.hide Dl, δ1, t2, yD, t3, rs2.extS x4, so4, ey, fun v H5 L5 x5 so5 r5 => ?_⟩
      have hD5 : H5 Dl = some (.lst acc) := x5.lst _ _ nA hD4
      have ra5 := (ra4.extS x5).append (Rps.one r5)
      refine ⟨acc, hD5, Nat.lt_of_lt_of_le (Nat.lt_of_le_of_lt hl (Nat.lt_of_lt_of_le hlt hz)) (size_ok (Nat.le_refl _)), rfl, hlt, acc ++ [v], accD ++ [yD], _, t3, ys', upd_same, ra5.ext (HE.writeN hD5) (fun a ha z => (ra5.ne a ha).1 (.inr z)), by rw [List.length_append]; exact Nat.succ_le_succ hl, (x14.trans x5).out nD, so5.writeN nA nq, er, by rw [List.append_assoc]; exact eall⟩
  · have ei : ds.drop i = [] := List.drop_eq_nil_of_le (by omega)
    rw [ei, cLp] at ec2
    obtain ⟨e1, e2⟩ := ret_inv ec2
    subst e1 e2
    rw [List.append_nil] at eall
    subst eall
    exact .inl ⟨wk.stop i H2 x2' (by omega), q (.ref Dl) H2 (Dl :: L) (x1.trans x2) so2.show' (.lst hD (fun z => so1.tr _ z nD) ra.show')⟩
section
variable {X : Cx}
theorem d_lc {elt tg iter : Expr} {ifs : List Expr} {scope : Scope} {own : List (Str × Nat)} {pos : Pos} {h : FI} {g : D → Ev → Option Ev} {tt : Ev → M Bool} {te : FE} (hc : X.calm = true) (hN : X.N.Nodup) (hi : DI X tg iter h) (ok : BlkOk X.N X.env.scope scope own)
    (hg : ∀ (s : Shared) (H : Hp) (C : Addr) (cl : List (Str × Addr)) (fp : List Addr), DG (X.blk s H scope (compEnvC scope cl C X.env) fp) tg (own.map (·.2)) g) (ht : ∀ (s : Shared) (H : Hp) (C : Addr) (cl : List (Str × Addr)) (fp : List Addr), DTs (X.blk s H scope (compEnvC scope cl C X.env) fp) ifs tt)
    (he : ∀ (s : Shared) (H : Hp) (C : Addr) (cl : List (Str × Addr)) (fp : List Addr), DE (X.blk s H scope (compEnvC scope cl C X.env) fp) elt te) (hs : ∀ x, foldedSetIterable iter X.env x = pure x := by intro _; rfl) :
    DE X (.ListComp elt [⟨tg, iter, ifs, 0⟩] scope pos) (eLc h (own.map (·.2)) g tt te) := (pe_lc hc hN hi ok hg ht he hs).imp tLc_imp
end
end DL
set_option Elab.async false
set_option linter.all false
set_option maxRecDepth 100000
set_option maxHeartbeats 4000000
/-! DL4: new lists (DF), statements over data, defs. -/
namespace DL
open PySem PySem.Spec PyProof.Rows L2

/-! ### expressions whose lists are new -/
def tF (f : FE) : TE := fun σ H Q => ∃ S δ st d st', Rs S H σ δ ∧ SrcOk S H st ∧ f δ st = some (d, st') ∧ ∀ v H' L, Ext S H H' → SrcOk S H' st' → Rp S H' v d L → L.Nodup → (∀ a ∈ L, H a = none) → Q v H'
def tAsF (f : Ev → M (List D)) : TA := fun σ H Q => ∃ S δ st ds st', Rs S H σ δ ∧ SrcOk S H st ∧ f δ st = some (ds, st') ∧ ∀ vs H' L, Ext S H H' → SrcOk S H' st' → Rps S H' vs ds L → L.Nodup → (∀ a ∈ L, H a = none) → Q vs H'
abbrev DF (X : Cx) (e : Expr) (f : FE) : Prop := PE X e (tF f)
abbrev DAF (X : Cx) (es : List Expr) (f : Ev → M (List D)) : Prop := PA X es (tAsF f)
def eLf (f : FE) : FE := fun δ => (f δ).bd fun d => M.of (if d.lf = true then some d else none)
section
variable {X : Cx} {e : Expr} {es : List Expr} {f : FE} {fs : Ev → M (List D)} {pos : Pos}
theorem df_de (h : DF X e f) : DE X e f := h.imp fun σ H Q ⟨S, δ, st, d, st', rs, so, e, q⟩ => ⟨S, δ, st, d, st', rs, so, e, fun v H' L x so' r _ _ => q v H' L x so' r⟩
theorem df_lf (h : DE X e f) : DF X e (eLf f) := h.imp fun σ H Q ⟨S, δ, st, d, st', rs, so, e, q⟩ => by
  obtain ⟨x, s1, ea, e1⟩ := bd_inv e
  obtain ⟨eo, es⟩ := of_inv e1
  clear e1
  subst es
  by_cases hl : x.lf = true
  · rw [if_pos hl] at eo
    cases eo
    exact ⟨S, δ, st, _, _, rs, so, ea, fun v H' L x1 so1 r => q v H' L x1 so1 r (by rw [r.nil hl]; exact List.nodup_nil) (by rw [r.nil hl]; exact fun _ z => nomatch z)⟩
  · rw [if_neg hl] at eo; cases eo
theorem daf_nil : DAF X [] eAs0 := pa_nil.imp fun σ H Q ⟨S, δ, st, ds, st', rs, so, e, w⟩ => by
  obtain ⟨e1, e2⟩ := ret_inv e
  subst e1 e2
  exact w [] H [] HE.refl so .nil List.nodup_nil fun _ z => nomatch z
theorem daf_cons (ha : DF X e f) (hr : DAF X es fs) (hs : starEach (e :: es) X.env = (false, eval e X.env) :: starEach es X.env := by rfl) : DAF X (e :: es) (eAs f fs) := (pa_cons ha hr hs).imp fun σ H Q ⟨S, δ, st, ds, st', rs, so, e, w⟩ => by
  obtain ⟨x, s1, ea, e⟩ := bd_inv e
  obtain ⟨y, s2, eb, e⟩ := bd_inv e
  obtain ⟨e1, e2⟩ := ret_inv e
  subst e1 e2
  refine ⟨S, δ, st, x, s1, rs, so, ea, fun v H1 L1 x1 so1 r1 n1 f1 => ⟨S, δ, s1, y, _, rs.extS x1, so1, eb, fun vs H2 L2 x2 so2 r2 n2 f2 => w (v :: vs) H2 _ (x1.trans x2) so2 (.cons (r1.extS x2) r2) ?_ fun a ha => (List.mem_append.mp ha).elim (f1 a) fun z => x1.new a (f2 a z)⟩⟩
  refine List.nodup_append.mpr ⟨n1, n2, fun a ha b hb z => ?_⟩
  obtain ⟨_, xs, q⟩ := r1.ne a ha
  rw [z, f2 b hb] at q
  cases q
theorem df_lst (h : DAF X es fs) : DF X (.List es pos) (eLst fs) := (pe_lst h).imp fun σ H Q ⟨S, δ, st, d, st', rs, so, e, w⟩ => by
  obtain ⟨ds, s1, ea, e⟩ := bd_inv e
  obtain ⟨eo, es'⟩ := of_inv e
  subst es'
  by_cases hz : ds.length ≤ 1000000
  · rw [if_pos hz] at eo
    cases eo
    refine ⟨S, δ, st, ds, _, rs, so, ea, fun vs H1 L1 x1 so1 r1 n1 f1 => ⟨size_ok (by rw [r1.len]; exact hz), fun p np => ?_⟩⟩
    have he : HE0 H1 (upd H1 p (.lst vs)) := HE.fresh np
    refine w (.ref p) _ (p :: L1) (x1.trans he.up0) (so1.ext0 he) (.lst upd_same (fun z => so1.tr _ z np) (r1.ext0 he)) (List.nodup_cons.mpr ⟨fun hp => ?_, n1⟩) fun a ha => ?_
    · obtain ⟨_, xs, q⟩ := r1.ne p hp
      rw [np] at q
      cases q
    · rcases List.mem_cons.mp ha with rfl | ha
      · exact x1.new _ np
      · exact f1 a ha
  · rw [if_neg hz] at eo; cases eo
/-- [x] * k: the new list -/
theorem df_rep {a b : Expr} {g : FE} (ha : DE X a f) (hb : DE X b g) : DF X (.BinOp a .Mult b pos) (fun δ => (f δ).bd fun x => (g δ).bd fun y => M.of (match x, y with | .lst xs, .int k => dMul (.lst xs) (.int k) | _, _ => none)) :=
  (pe_op op_rep ha hb).imp fun σ H Q ⟨S, δ, st, d, st', rs, so, e, q⟩ => by
  obtain ⟨x, s1, ea, e⟩ := bd_inv e
  obtain ⟨y, s2, eb, e⟩ := bd_inv e
  obtain ⟨eo, es⟩ := of_inv e
  clear e
  subst es
  refine ⟨S, δ, st, x, s1, rs, so, ea, fun v H1 L1 x1 so1 r1 => ⟨S, δ, s1, y, _, rs.extS x1, so1, eb, fun w H2 L2 x2 so2 r2 => ?_⟩⟩
  match x, y, eo with
  | .lst xs, .int k, eo =>
    have eo : (if -1000 ≤ k ∧ k ≤ 1000 ∧ xs.length ≤ 1000 ∧ lfs xs = true then some (D.lst (List.replicate k.toNat xs).flatten) else none) = some d := eo
    obtain ⟨a, vs, L1', rfl, ea', na, rsa, rfl⟩ := (r1.extS x2).ilst
    obtain ⟨rfl, rfl⟩ := r2.iint
    by_cases h : -1000 ≤ k ∧ k ≤ 1000 ∧ xs.length ≤ 1000 ∧ lfs xs = true
    · rw [if_pos h] at eo
      cases eo
      have hl := rsa.len
      have hL := rsa.nils h.2.2.2
      subst hL
      refine ⟨_, k, _, rfl, rfl, ea', by omega, by omega, ?_, fun p np => ?_⟩
      · have h2 : vs.length * k.toNat ≤ 1000 * 1000 := Nat.mul_le_mul (by omega) (by omega)
        exact size_ok h2
      · exact q _ _ [p] (x1.trans (x2.trans (HE.fresh np))) (so2.ext0 (HE.fresh np)) (.lst upd_same (fun z => so2.tr _ z np) ((rsa.repl k.toNat).ext0 (HE.fresh np))) (by simp) fun b hb => by
          have : b = p := by simpa using hb
          exact this ▸ x1.new _ (x2.new _ np)
    · rw [if_neg h] at eo; cases eo
/-- list(e) of things without lists -/
def bListF : List D → Option D
  | [d] => d.items.bind fun xs => if lfs xs = true then some (.lst xs) else none
  | _ => none
theorem df_list {x : Str} {p pos : Pos} (hg : Gl X x) (hm : X.mg x = none) (hv : bootBuiltins x = some (.type "list")) (ha : DA X (e :: es) fs)
    (hn : x ≠ "__name__" := by decide) (hdb : (x == ("__debug__" : Str)) = false := by decide) (he : starEach (e :: es) X.env = (false, eval e X.env) :: starEach es X.env := by rfl) (hpl : (backTo pos (starEach es X.env)).any (·.1) = false := by rfl) :
    DF X (.Call (.Name x p) (e :: es) [] pos) (eCall bListF fs) := (pe_callTy call_list_of hg hm hv ha hn hdb he hpl).imp fun σ H Q ⟨S, δ, st, d, st', rs, so, e, q⟩ => by
  obtain ⟨xs, s1, ea, e⟩ := bd_inv e
  obtain ⟨eo, es⟩ := of_inv e
  clear e
  subst es
  refine ⟨S, δ, st, xs, _, rs, so, ea, fun vs H1 L1 x1 so1 r1 => ?_⟩
  match xs, eo with
  | [a], eo =>
    obtain ⟨v, rfl, r⟩ := r1.i1
    obtain ⟨ys, e1, e2⟩ := Option.bind_eq_some_iff.mp (show (a.items.bind fun xs => if lfs xs = true then some (D.lst xs) else none) = some d from eo)
    obtain ⟨p, vs, L', rfl, ho, rs'⟩ := r.items e1
    by_cases hl : lfs ys = true
    · rw [if_pos hl] at e2
      cases e2
      have hL := rs'.nils hl
      subst hL
      exact ⟨p, vs, rfl, ho.elim (fun z => .inl (.inl z)) fun z => .inr (.inl z), fun l nl => q _ _ [l] (x1.trans (HE.fresh nl)) (so1.ext0 (HE.fresh nl)) (.lst upd_same (fun z => so1.tr _ z nl) (rs'.ext0 (HE.fresh nl))) (by simp) fun b hb => by
        have : b = l := by simpa using hb
        exact this ▸ x1.new _ nl⟩
    · rw [if_neg hl] at e2; cases e2
end
theorem tLcF_imp {h : FI} {vs : List Nat} {g : D → Ev → Option Ev} {tt : Ev → M Bool} {te : FE} : ∀ σ H Q, tF (eLc h vs g tt te) σ H Q → tLc (tI h) (tGd vs g) (tBo tt) (tF te) vs σ H Q := fun σ H Q ⟨S, δ, st, d, st', rs, so, e, q⟩ => by
  obtain ⟨ds, s1, eh, e⟩ := bd_inv e
  by_cases hz : ds.length ≤ 1000000
  rotate_left
  · rw [if_neg hz] at e; cases e
  rw [if_pos hz] at e
  obtain ⟨all, s2, ec, e⟩ := bd_inv e
  obtain ⟨e1, e2⟩ := ret_inv e
  subst e1 e2
  refine ⟨S, δ, st, ds, s1, rs, so, eh, fun J H1 La x1 so1 wk Dl nD => ?_⟩
  have nA : Dl ≠ S.dA := fun z => so1.tr _ S.hA (z ▸ nD)
  have nq : Dl ≠ S.q := fun z => so1.tr _ S.hQ (z ▸ nD)
  have rs1 : Rs (S.hide Dl) H1 σ δ := (rs.extS x1).hide fun xs z => by rw [nD] at z; cases z
  have laA : ∀ b, b = S.dA → b ∉ La := fun b e hb => (wk.la b hb).1 (e ▸ S.hA)
  refine ⟨fun i m H => m = ds.length - i ∧ i ≤ ds.length ∧ ∃ acc accD L sti ys, H Dl = some (.lst acc) ∧ Rps (S.hide Dl) H acc accD L ∧ L.Nodup ∧ (∀ a ∈ L, H1 a = none) ∧ acc.length ≤ i ∧ Ext S H1 H ∧ SrcOk (S.hide Dl) H sti ∧ cLp vs g tt te δ (ds.drop i) sti = some (ys, st') ∧ accD ++ ys = all, ⟨ds.length, rfl, Nat.zero_le _, [], [], [], s1, all, upd_same, .nil, List.nodup_nil, (fun _ z => nomatch z), Nat.zero_le _, HE.refl.out nD, (so1.ext0 (HE.fresh nD)).hide (by rw [upd_same]; exact fun z => nomatch z), ec, rfl⟩, ?_⟩
  rintro i m H2 ⟨rfl, hi, acc, accD, L, sti, ys, hD, ra, nL, fL, hl, x2, so2, ec2, eall⟩
  have x2' : HE (fun b => b ∉ La) H1 H2 := x2.mono laA
  by_cases hlt : i < ds.length
  · refine .inr ⟨wk.go i H2 x2' hlt, fun H' => (fun i m H => m = ds.length - i ∧ i ≤ ds.length ∧ ∃ acc accD L sti ys, H Dl = some (.lst acc) ∧ Rps (S.hide Dl) H acc accD L ∧ L.Nodup ∧ (∀ a ∈ L, H1 a = none) ∧ acc.length ≤ i ∧ Ext S H1 H ∧ SrcOk (S.hide Dl) H sti ∧ cLp vs g tt te δ (ds.drop i) sti = some (ys, st') ∧ accD ++ ys = all) (i + 1) (ds.length - (i + 1)) H', fun H' hN => ⟨ds.length - (i + 1), by omega, hN⟩, fun x H3 y => ?_⟩
    obtain ⟨d, Ld, hd, x3, rd, hLd⟩ := wk.yld i H2 x H3 x2' so2.show'.tr hlt y
    have hdrop : ds.drop i = d :: ds.drop (i + 1) := by
      have e1 := List.drop_eq_getElem_cons hlt
      have e2 : ds[i] = d := by
        have := List.getElem?_eq_getElem hlt
        rw [this] at hd
        exact Option.some.inj hd
      rw [e1, e2]
    rw [hdrop, cLp] at ec2
    obtain ⟨δ1, t1, eg0, ec3⟩ := bd_inv ec2
    obtain ⟨eg, et⟩ := of_inv eg0
    clear eg0 ec2
    subst et
    obtain ⟨b, t2, eb, ec2⟩ := bd_inv ec3
    clear ec3
    have x13 : Ext S H1 H3 := x2.trans x3.up0
    have so3 : SrcOk (S.hide Dl) H3 t1 := so2.ext0 x3
    have hD3 : H3 Dl = some (.lst acc) := x3.lst _ _ (fun z => z) hD
    refine ⟨S.hide Dl, wipeE δ vs, d, Ld, δ1, (rs1.extS (S := S.hide Dl) x13).wipe vs, rd.hide fun a ha z => ?_, eg, fun σ2 o2 l2 rs2 => ⟨wipe_eq o2 l2, S.hide Dl, δ1, t1, b, t2, rs2, so3, eb, fun H4 x4 so4 => ?_⟩⟩
    · obtain ⟨_, xs, w⟩ := wk.la a (hLd a ha)
      rw [z, nD] at w
      cases w
    have hD4 : H4 Dl = some (.lst acc) := x4.lst _ _ nA hD3
    have ra4 : Rps (S.hide Dl) H4 acc accD L := (ra.ext0 x3).extS x4
    have x14 : Ext S H1 H4 := x13.trans x4
    cases b with
    | false =>
      rw [if_neg Bool.false_ne_true] at ec2
      refine iteF ?_
      exact ⟨rfl, hlt, acc, accD, L, t2, ys, hD4, ra4, nL, fL, by omega, x14, so4, ec2, eall⟩
    | true =>
      rw [if_pos rfl] at ec2
      refine iteT ?_
      obtain ⟨yD, t3, ey, ec4⟩ := bd_inv ec2
      obtain ⟨ys', t4, er, ec5⟩ := bd_inv ec4
      obtain ⟨e1, e2⟩ := ret_inv ec5
      clear ec2 ec4 ec5
      subst e1 e2
      refine ⟨S.hide Dl, δ1, t2, yD, t3, rs2.extS x4, so4, ey, fun v H5 L5 x5 so5 r5 n5 f5 => ?_⟩
      have hD5 : H5 Dl = some (.lst acc) := x5.lst _ _ nA hD4
      have ra5 := (ra4.extS x5).append (Rps.one r5)
      refine ⟨acc, hD5, Nat.lt_of_lt_of_le (Nat.lt_of_le_of_lt hl (Nat.lt_of_lt_of_le hlt hz)) (size_ok (Nat.le_refl _)), rfl, hlt, acc ++ [v], accD ++ [yD], _, t3, ys', upd_same, ra5.ext (HE.writeN hD5) (fun a ha z => (ra5.ne a ha).1 (.inr z)), ?_, fun a ha => (List.mem_append.mp ha).elim (fL a) fun z => x14.new a (f5 a z), by rw [List.length_append]; exact Nat.succ_le_succ hl, (x14.trans x5).out nD, so5.writeN nA nq, er, by rw [List.append_assoc]; exact eall⟩
      refine List.nodup_append.mpr ⟨nL, n5, fun a ha b hb z => ?_⟩
      obtain ⟨_, xs, w⟩ := ra4.ne a ha
      rw [z, f5 b hb] at w
      cases w
  · have ei : ds.drop i = [] := List.drop_eq_nil_of_le (by omega)
    rw [ei, cLp] at ec2
    obtain ⟨e1, e2⟩ := ret_inv ec2
    subst e1 e2
    rw [List.append_nil] at eall
    subst eall
    refine .inl ⟨wk.stop i H2 x2' (by omega), q (.ref Dl) H2 (Dl :: L) (x1.trans x2) so2.show' (.lst hD (fun z => so1.tr _ z nD) ra.show') (List.nodup_cons.mpr ⟨fun z => (ra.ne Dl z).1 (.inr rfl), nL⟩) fun a ha => ?_⟩
    rcases List.mem_cons.mp ha with rfl | ha
    · exact x1.new _ nD
    · exact x1.new _ (fL a ha)
section
variable {X : Cx}
theorem df_lc {elt tg iter : Expr} {ifs : List Expr} {scope : Scope} {own : List (Str × Nat)} {pos : Pos} {h : FI} {g : D → Ev → Option Ev} {tt : Ev → M Bool} {te : FE} (hc : X.calm = true) (hN : X.N.Nodup) (hi : DI X tg iter h) (ok : BlkOk X.N X.env.scope scope own)
    (hg : ∀ (s : Shared) (H : Hp) (C : Addr) (cl : List (Str × Addr)) (fp : List Addr), DG (X.blk s H scope (compEnvC scope cl C X.env) fp) tg (own.map (·.2)) g) (ht : ∀ (s : Shared) (H : Hp) (C : Addr) (cl : List (Str × Addr)) (fp : List Addr), DTs (X.blk s H scope (compEnvC scope cl C X.env) fp) ifs tt)
    (he : ∀ (s : Shared) (H : Hp) (C : Addr) (cl : List (Str × Addr)) (fp : List Addr), DF (X.blk s H scope (compEnvC scope cl C X.env) fp) elt te) (hs : ∀ x, foldedSetIterable iter X.env x = pure x := by intro _; rfl) :
    DF X (.ListComp elt [⟨tg, iter, ifs, 0⟩] scope pos) (eLc h (own.map (·.2)) g tt te) := (pe_lc hc hN hi ok hg ht he hs).imp tLcF_imp
end

/-! ### statements -/
structure RS (S : Sr) (W : Addr → Prop) (H0 H : Hp) (σ : L2.St) (δ : Ev) : Prop where
  len : σ.length = δ.length
  he : HE W H0 H
  wA : W S.dA
  wn : ∀ b, H0 b = none → W b
  sl : ∃ Λ : Nat → List Addr, (∀ i d, gt δ i = some d → ∃ v, σ[i]? = some (some v) ∧ Rp S H v d (Λ i)) ∧
    ∀ i d, δ[i]? = some (.ow d) → (Λ i).Nodup ∧ ∀ a ∈ Λ i, W a ∧ ∀ j e, j ≠ i → gt δ j = some e → a ∉ Λ j
section
variable {S : Sr} {W : Addr → Prop} {H0 H H' : Hp} {σ : L2.St} {δ : Ev}
theorem RS.rs (r : RS S W H0 H σ δ) : Rs S H σ δ := ⟨r.len, fun i d e => by
  obtain ⟨Λ, h, _⟩ := r.sl
  obtain ⟨v, h1, h2⟩ := h i d e
  exact ⟨v, _, h1, h2⟩⟩
theorem RS.ext (r : RS S W H0 H σ δ) (x : Ext S H H') : RS S W H0 H' σ δ := ⟨r.len, r.he.trans (x.mono fun b e => e ▸ r.wA), r.wA, r.wn, by
  obtain ⟨Λ, h, h2⟩ := r.sl
  exact ⟨Λ, fun i d e => by
    obtain ⟨v, a, b⟩ := h i d e
    exact ⟨v, a, b.extS x⟩, h2⟩⟩
def upN (Λ : Nat → List Addr) (i : Nat) (L : List Addr) : Nat → List Addr := fun j => if j = i then L else Λ j
theorem upN_same {Λ : Nat → List Addr} {i : Nat} {L : List Addr} : upN Λ i L i = L := if_pos rfl
theorem upN_ne {Λ : Nat → List Addr} {i j : Nat} {L : List Addr} (h : j ≠ i) : upN Λ i L j = Λ j := if_neg h
theorem gt_ow {i : Nat} {d : D} (h : δ[i]? = some (.ow d)) : gt δ i = some d := by unfold gt; rw [h]; rfl
theorem set_ow {i j : Nat} {s : Sl} {d : D} (h : (δ.set i s)[j]? = some (.ow d)) : (j = i ∧ s = .ow d) ∨ (j ≠ i ∧ δ[j]? = some (.ow d)) := by
  by_cases e : i = j
  · subst e
    by_cases hi : i < δ.length
    · rw [List.getElem?_set_self hi] at h; exact .inl ⟨rfl, Option.some.inj h⟩
    · rw [List.getElem?_eq_none (by simpa using hi)] at h; cases h
  · rw [List.getElem?_set_ne e] at h
    exact .inr ⟨Ne.symm e, h⟩
theorem RS.put {i : Nat} {v : V} {s : Sl} (r : RS S W H0 H σ δ) {L : List Addr} (hv : ∀ d, s.d = some d → Rp S H v d L)
    (h1 : ∀ d, s = .ow d → L.Nodup ∧ (∀ a ∈ L, W a)) (h2 : ∀ j e u L', gt δ j = some e → σ[j]? = some (some u) → Rp S H u e L' → ∀ a ∈ L', a ∉ L) :
    RS S W H0 H (σ.set i (some v)) (δ.set i s) := ⟨by simp [r.len], r.he, r.wA, r.wn, by
  obtain ⟨Λ, h, h3⟩ := r.sl
  have ap : ∀ j e, gt δ j = some e → ∀ a ∈ Λ j, a ∉ L := fun j e hg => by
    obtain ⟨u, a, b⟩ := h j e hg
    exact h2 j e u _ hg a b
  refine ⟨upN Λ i L, fun j d e => ?_, fun j d e => ?_⟩
  · rw [gt_set] at e
    by_cases hij : i = j
    · subst hij
      rw [if_pos rfl] at e
      by_cases hi : i < δ.length
      · rw [if_pos hi] at e
        rw [upN_same]
        exact ⟨v, by rw [List.getElem?_set_self (by rw [r.len]; exact hi)], hv d e⟩
      · rw [if_neg hi] at e; cases e
    · rw [if_neg hij] at e
      rw [upN_ne (Ne.symm hij)]
      obtain ⟨w, a, b⟩ := h j d e
      exact ⟨w, by rw [List.getElem?_set_ne hij]; exact a, b⟩
  · rcases set_ow e with ⟨rfl, es⟩ | ⟨hj, e⟩
    · rw [upN_same]
      obtain ⟨n, w⟩ := h1 d es
      refine ⟨n, fun a ha => ⟨w a ha, fun k e' hk hg => ?_⟩⟩
      rw [upN_ne hk]
      rw [gt_set, if_neg (Ne.symm hk)] at hg
      exact fun z => ap k e' hg a z ha
    · rw [upN_ne hj]
      obtain ⟨n, w⟩ := h3 j d e
      refine ⟨n, fun a ha => ⟨(w a ha).1, fun k e' hk hg => ?_⟩⟩
      by_cases hki : k = i
      · rw [hki, upN_same]
        exact ap j d (gt_ow e) a ha
      · rw [upN_ne hki]
        rw [gt_set, if_neg (Ne.symm hki)] at hg
        exact (w a ha).2 k e' hk hg⟩
theorem RS.put_lf {i : Nat} {v : V} {d : D} (r : RS S W H0 H σ δ) (hv : Rp S H v d []) : RS S W H0 H (σ.set i (some v)) (δ.set i (.rd d)) :=
  r.put (L := []) (fun d' e => by cases e; exact hv) (fun _ z => nomatch z) fun _ _ _ _ _ _ _ _ _ z => nomatch z
mutual
theorem Rp.uniq {v : V} {d : D} {L L' : List Addr} (r : Rp S H v d L) (r' : Rp S H v d L') : L = L' := by
  cases r with
  | non => cases r'; rfl
  | bl => cases r'; rfl
  | int => cases r'; rfl
  | str => cases r'; rfl
  | src => cases r'; rfl
  | dct => cases r'; rfl
  | rng => cases r'; rfl
  | tup h rs =>
    cases r' with
    | tup h' rs' =>
      have := DL.Rd.uniq h h'
      subst this
      exact rs.uniq rs'
  | tupk h _ rs =>
    cases r' with
    | tupk h' _ rs' =>
      rw [h] at h'
      cases h'
      exact rs.uniq rs'
  | lst h n rs =>
    cases r' with
    | lst h' n' rs' =>
      rw [h] at h'
      cases h'
      rw [rs.uniq rs']
theorem Rps.uniq {vs : List V} {ds : List D} {L L' : List Addr} (r : Rps S H vs ds L) (r' : Rps S H vs ds L') : L = L' := by
  cases r with
  | nil => cases r'; rfl
  | cons r rs =>
    cases r' with
    | cons r' rs' => rw [r.uniq r', rs.uniq rs']
end
theorem RS.put_new {i : Nat} {v : V} {d : D} {L : List Addr} (r : RS S W H0 H σ δ) (x : Ext S H H') (hv : Rp S H' v d L) (n : L.Nodup) (f : ∀ a ∈ L, H a = none) : RS S W H0 H' (σ.set i (some v)) (δ.set i (.ow d)) :=
  (r.ext x).put (fun d' e => by cases e; exact hv) (fun d' e => ⟨n, fun a ha => r.wn a (r.he.new a (f a ha))⟩) fun j e u L' hg hu hr a ha hL => by
    obtain ⟨Λ, h', _⟩ := r.sl
    obtain ⟨v2, e2, r2⟩ := h' j e hg
    rw [hu] at e2
    cases e2
    have := hr.uniq (r2.extS x)
    subst this
    obtain ⟨_, xs, q⟩ := r2.ne a ha
    rw [f a hL] at q
    cases q
/-- the owned list at slot i is changed -/
theorem RS.wr {i : Nat} {ds ds' : List D} {a : Addr} {vs vs' : List V} {L L' : List Addr} (r : RS S W H0 H σ δ) (hi : δ[i]? = some (.ow (.lst ds))) (ha : σ[i]? = some (some (.ref a))) (hH : H a = some (.lst vs)) (hr : Rps S H vs ds L)
    (hn : Rps S (upd H a (.lst vs')) vs' ds' L') (nd : L'.Nodup) (sub : ∀ b ∈ L', b ∈ L) (hn' : a ∉ L') : RS S W H0 (upd H a (.lst vs')) σ (δ.set i (.ow (.lst ds'))) := by
  obtain ⟨Λ, h, h2⟩ := r.sl
  obtain ⟨v, e1, rp⟩ := h i _ (gt_ow hi)
  rw [ha] at e1
  cases e1
  obtain ⟨a', vs1, L1, e2, h3, nh, rs1, eL⟩ := rp.ilst
  cases e2
  rw [hH] at h3
  cases h3
  have eL1 := rs1.uniq hr
  subst eL1
  obtain ⟨ndi, hw⟩ := h2 i _ hi
  rw [eL] at ndi hw
  have wa : W a := (hw a List.mem_cons_self).1
  have ilt : i < δ.length := gt_lt (gt_ow hi)
  refine ⟨by simp [r.len], r.he.trans (HE.write hH wa), r.wA, r.wn, upN Λ i (a :: L'), fun j d e => ?_, fun j d e => ?_⟩
  · rw [gt_set] at e
    by_cases hij : i = j
    · subst hij
      rw [if_pos rfl, if_pos ilt] at e
      cases e
      rw [upN_same]
      exact ⟨_, ha, .lst upd_same nh hn⟩
    · rw [if_neg hij] at e
      rw [upN_ne (Ne.symm hij)]
      obtain ⟨w, e1, e2⟩ := h j d e
      exact ⟨w, e1, e2.ext (HE.writeN hH) fun b hb z => (hw a List.mem_cons_self).2 j d (Ne.symm hij) e (z ▸ hb)⟩
  · have inL : ∀ b ∈ a :: L', b ∈ a :: L1 := fun b hb => (List.mem_cons.mp hb).elim (fun z => z ▸ List.mem_cons_self) fun z => List.mem_cons_of_mem _ (sub b z)
    rcases set_ow e with ⟨rfl, es⟩ | ⟨hj, e⟩
    · rw [upN_same]
      refine ⟨List.nodup_cons.mpr ⟨hn', nd⟩, fun b hb => ⟨(hw b (inL b hb)).1, fun k e' hk hg => ?_⟩⟩
      rw [upN_ne hk]
      rw [gt_set, if_neg (Ne.symm hk)] at hg
      exact (hw b (inL b hb)).2 k e' hk hg
    · rw [upN_ne hj]
      obtain ⟨n, w⟩ := h2 j d e
      refine ⟨n, fun b hb => ⟨(w b hb).1, fun k e' hk hg => ?_⟩⟩
      by_cases hki : k = i
      · subst hki
        rw [upN_same]
        intro z
        have := inL b z
        rw [← eL] at this
        exact (w b hb).2 k _ hk (gt_ow hi) this
      · rw [upN_ne hki]
        rw [gt_set, if_neg (Ne.symm hki)] at hg
        exact (w b hb).2 k e' hk hg
/-- the owned list at slot i with its address -/
theorem RS.own {i : Nat} {ds : List D} (r : RS S W H0 H σ δ) (hi : δ[i]? = some (.ow (.lst ds))) : ∃ a vs L, σ[i]? = some (some (.ref a)) ∧ H a = some (.lst vs) ∧ ¬ S.hid a ∧ Rps S H vs ds L ∧ (a :: L).Nodup := by
  obtain ⟨Λ, h, h2⟩ := r.sl
  obtain ⟨v, e1, rp⟩ := h i _ (gt_ow hi)
  obtain ⟨a', vs1, L1, e2, h3, nh, rs1, eL⟩ := rp.ilst
  subst e2
  refine ⟨a', vs1, L1, e1, h3, nh, rs1, ?_⟩
  rw [← eL]
  exact (h2 i _ hi).1
theorem SrcOk.wr {st : Src} {a : Addr} {vs : List V} (h : SrcOk S H st) (n : ¬ S.hid a) : SrcOk S (upd H a (.lst vs)) st := by
  have ne : ∀ b, S.hid b → b ≠ a := fun b hb z => n (z ▸ hb)
  refine ⟨h.ne, (upd_ne (ne _ S.hA)).trans h.at_, (upd_ne (ne _ S.hQ)).trans h.cp, fun b hb => ?_⟩
  rw [upd_ne (ne b hb)]
  exact h.tr b hb
end

/-! ### judgements of statements -/
inductive Out where
  | nx (δ : Ev) | rt (d : D) | bk (δ : Ev) | ct (δ : Ev)
abbrev FS := Ev → M Out
def Post (S : Sr) (W : Addr → Prop) (H0 : Hp) (st : Src) (D' : Ends) : Out → Prop
  | .nx δ => ∀ σ' H', RS S W H0 H' σ' δ → SrcOk S H' st → D'.nx σ' H'
  | .rt d => ∀ v H' L, HE W H0 H' → SrcOk S H' st → Rp S H' v d L → D'.rt v H'
  | .bk δ => ∀ σ' H', RS S W H0 H' σ' δ → SrcOk S H' st → D'.bk σ' H'
  | .ct δ => ∀ σ' H', RS S W H0 H' σ' δ → SrcOk S H' st → D'.ct σ' H'
def tS (g : FS) : TS := fun D' σ H => ∃ S W H0 δ st o st', RS S W H0 H σ δ ∧ SrcOk S H st ∧ g δ st = some (o, st') ∧ Post S W H0 st' D' o
abbrev DS (X : Cx) (s : Stmt) (g : FS) : Prop := PS X s (tS g)
abbrev DSs (X : Cx) (s : List Stmt) (g : FS) : Prop := PSs X s (tS g)
def sNil : FS := fun δ => M.ret (.nx δ)
def sSeq (g1 g2 : FS) : FS := fun δ => (g1 δ).bd fun o => match o with | .nx δ1 => g2 δ1 | o => M.ret o
def sExp (f : FE) : FS := fun δ => (f δ).bd fun _ => M.ret (.nx δ)
def sSet (i : Nat) (f : FE) : FS := fun δ => (f δ).bd fun d => if d.lf = true then M.ret (.nx (δ.set i (.rd d))) else M.no
def sOwn (i : Nat) (f : FE) : FS := fun δ => (f δ).bd fun d => M.ret (.nx (δ.set i (.ow d)))
def noOw (δ : Ev) : Bool := δ.all fun s => match s with | .ow _ => false | _ => true
def sSetA (i : Nat) (f : FE) : FS := fun δ => (f δ).bd fun d => if noOw δ = true then M.ret (.nx (δ.set i (.rd d))) else M.no
def sRet (f : FE) : FS := fun δ => (f δ).bd fun d => M.ret (.rt d)
def sRetN : FS := fun _ => M.ret (.rt .non)
def sIf (c : Ev → M Bool) (a b : FS) : FS := fun δ => (c δ).bd fun k => if k = true then a δ else b δ
def sNo : FS := fun _ => M.no
def sBk : FS := fun δ => M.ret (.bk δ)
def sCt : FS := fun δ => M.ret (.ct δ)
section
variable {X : Cx} {s : Stmt} {ss : List Stmt} {e : Expr} {f : FE} {g g' : FS} {pos : Pos}
theorem ds_nil : DSs X [] sNil := pss_nil.imp fun σ H Q ⟨S, W, H0, δ, st, o, st', rs, so, e, q⟩ => by
  obtain ⟨e1, e2⟩ := ret_inv e
  subst e1 e2
  exact q σ H rs so
theorem tSeq_imp : ∀ σ H Q, tS (sSeq g g') Q σ H → tSeq (tS g) (tS g') Q σ H := fun σ H Q ⟨S, W, H0, δ, st, o, st', rs, so, e, q⟩ => by
  obtain ⟨o1, s1, e1, e2⟩ := bd_inv e
  refine ⟨S, W, H0, δ, st, o1, s1, rs, so, e1, ?_⟩
  cases o1 with
  | nx δ1 => exact fun σ' H' rs' so' => ⟨S, W, H0, δ1, s1, o, st', rs', so', e2, q⟩
  | rt d => obtain ⟨e3, e4⟩ := ret_inv e2; subst e3 e4; exact q
  | bk d => obtain ⟨e3, e4⟩ := ret_inv e2; subst e3 e4; exact q
  | ct d => obtain ⟨e3, e4⟩ := ret_inv e2; subst e3 e4; exact q
theorem ds_cons (h1 : DS X s g) (h2 : DSs X ss g') : DSs X (s :: ss) (sSeq g g') := (pss_cons h1 h2).imp tSeq_imp
theorem ds_one (h : DS X s g) : DSs X [s] g := pss_one h
theorem ds_exp (he : DE X e f) (hs : swapsWith e none pos.line X.env = pure false := by rfl) : DS X (.Expr e pos) (sExp f) := (ps_expr he hs).imp fun σ H Q ⟨S, W, H0, δ, st, o, st', rs, so, e, q⟩ => by
  obtain ⟨d, s1, ea, e⟩ := bd_inv e
  obtain ⟨e1, e2⟩ := ret_inv e
  subst e1 e2
  exact ⟨S, δ, st, d, _, rs.rs, so, ea, fun v H1 L x1 so1 r => q σ H1 (rs.ext x1) so1⟩
theorem ds_doc {x j pos pos'} : DS X (.Expr (.Constant (.str x) j pos) pos') sNil := ps_doc.imp fun σ H Q ⟨S, W, H0, δ, st, o, st', rs, so, e, q⟩ => by
  obtain ⟨e1, e2⟩ := ret_inv e
  subst e1 e2
  exact q σ H rs so
theorem ds_pass : DS X (.Pass pos) sNil := ps_pass.imp fun σ H Q ⟨S, W, H0, δ, st, o, st', rs, so, e, q⟩ => by
  obtain ⟨e1, e2⟩ := ret_inv e
  subst e1 e2
  exact q σ H rs so
theorem set_imp {i : Nat} : ∀ σ H Q, tS (sSet i f) Q σ H → tAsg (tD f) (gName i) Q σ H := fun σ H Q ⟨S, W, H0, δ, st, o, st', rs, so, e, q⟩ => by
  obtain ⟨d, s1, ea, e⟩ := bd_inv e
  by_cases hl : d.lf = true
  · rw [if_pos hl] at e
    obtain ⟨e1, e2⟩ := ret_inv e
    subst e1 e2
    refine ⟨S, δ, st, d, _, rs.rs, so, ea, fun v H1 L x1 so1 r => q _ H1 ?_ so1⟩
    have hL := r.nil hl
    subst hL
    exact (rs.ext x1).put_lf r
  · rw [if_neg hl] at e; cases e
theorem setA_imp {i : Nat} : ∀ σ H Q, tS (sSetA i f) Q σ H → tAsg (tD f) (gName i) Q σ H := fun σ H Q ⟨S, W, H0, δ, st, o, st', rs, so, e, q⟩ => by
  obtain ⟨d, s1, ea, e⟩ := bd_inv e
  by_cases hl : noOw δ = true
  · rw [if_pos hl] at e
    obtain ⟨e1, e2⟩ := ret_inv e
    subst e1 e2
    refine ⟨S, δ, st, d, _, rs.rs, so, ea, fun v H1 L x1 so1 r => q _ H1 ?_ so1⟩
    have r1 := rs.ext x1
    refine ⟨by simp [r1.len], r1.he, r1.wA, r1.wn, ?_⟩
    obtain ⟨Λ, h, _⟩ := r1.sl
    refine ⟨upN Λ i L, fun j d' e => ?_, fun j d' e => ?_⟩
    · rw [gt_set] at e
      by_cases hij : i = j
      · subst hij
        rw [if_pos rfl] at e
        by_cases hi : i < δ.length
        · rw [if_pos hi] at e
          cases e
          rw [upN_same]
          exact ⟨v, by rw [List.getElem?_set_self (by rw [r1.len]; exact hi)], r⟩
        · rw [if_neg hi] at e; cases e
      · rw [if_neg hij] at e
        rw [upN_ne (Ne.symm hij)]
        obtain ⟨w, a, b⟩ := h j d' e
        exact ⟨w, by rw [List.getElem?_set_ne hij]; exact a, b⟩
    · rcases set_ow e with ⟨_, z⟩ | ⟨_, e⟩
      · cases z
      · exact absurd (List.all_eq_true.mp hl _ (List.mem_of_getElem? e)) Bool.false_ne_true
  · rw [if_neg hl] at e; cases e
theorem own_imp {i : Nat} : ∀ σ H Q, tS (sOwn i f) Q σ H → tAsg (tF f) (gName i) Q σ H := fun σ H Q ⟨S, W, H0, δ, st, o, st', rs, so, e, q⟩ => by
  obtain ⟨d, s1, ea, e⟩ := bd_inv e
  obtain ⟨e1, e2⟩ := ret_inv e
  subst e1 e2
  exact ⟨S, δ, st, d, _, rs.rs, so, ea, fun v H1 L x1 so1 r n fr => q _ H1 (rs.put_new x1 r n fr) so1⟩
section
variable {i : Nat} {x : Str} {pos' : Pos} (hN : X.N.Nodup) (hi : X.N[i]? = some x) (hx : Loc X.env.scope x)
include hN hi hx
theorem ds_set (he : DE X e f) (hs : swapsWith e (some (.Name x pos')) pos.line X.env = pure false := by rfl) (hf : X.fn x = true ∨ X.env.scope.names.lookup x = some .local := by first | exact .inl rfl | exact .inr rfl | assumption) : DS X (.Assign [.Name x pos'] e pos) (sSet i f) := (ps_set hN hi hx he hs hf).imp set_imp
theorem ds_setA (he : DE X e f) (hs : swapsWith e (some (.Name x pos')) pos.line X.env = pure false := by rfl) (hf : X.fn x = true ∨ X.env.scope.names.lookup x = some .local := by first | exact .inl rfl | exact .inr rfl | assumption) : DS X (.Assign [.Name x pos'] e pos) (sSetA i f) := (ps_set hN hi hx he hs hf).imp setA_imp
theorem ds_own (he : DF X e f) (hs : swapsWith e (some (.Name x pos')) pos.line X.env = pure false := by rfl) (hf : X.fn x = true ∨ X.env.scope.names.lookup x = some .local := by first | exact .inl rfl | exact .inr rfl | assumption) : DS X (.Assign [.Name x pos'] e pos) (sOwn i f) := (ps_set hN hi hx he hs hf).imp own_imp
end
theorem ds_setLc {i : Nat} {y : Str} {py : Pos} {elt tg iter : Expr} {ifs : List Expr} {scope : Scope} {own : List (Str × Nat)} {pos spos : Pos} {h : FI} {g : D → Ev → Option Ev} {tt : Ev → M Bool} {te : FE} (hc : X.calm = true) (hN : X.N.Nodup) (hy : X.N[i]? = some y) (hyl : X.env.scope.names.lookup y = some .local)
    (hsw : swapsWith (.ListComp elt [⟨tg, iter, ifs, 0⟩] scope pos) (some (.Name y py)) spos.line X.env = pure true) (hi : DI X tg iter h) (ok : BlkOk X.N X.env.scope scope own)
    (hg : ∀ (s : Shared) (H : Hp) (C : Addr) (cl : List (Str × Addr)) (fp : List Addr), DG (X.blk s H scope (compEnvC scope cl C X.env) fp) tg (own.map (·.2)) g) (ht : ∀ (s : Shared) (H : Hp) (C : Addr) (cl : List (Str × Addr)) (fp : List Addr), DTs (X.blk s H scope (compEnvC scope cl C X.env) fp) ifs tt)
    (he : ∀ (s : Shared) (H : Hp) (C : Addr) (cl : List (Str × Addr)) (fp : List Addr), DF (X.blk s H scope (compEnvC scope cl C X.env) fp) elt te) (hs : ∀ x, foldedSetIterable iter X.env x = pure x := by intro _; rfl) :
    DS X (.Assign [.Name y py] (.ListComp elt [⟨tg, iter, ifs, 0⟩] scope pos) spos) (sOwn i (eLc h (own.map (·.2)) g tt te)) := (ps_setLc hc hN hy hyl hsw hi ok hg ht he hs).imp fun σ H Q w => tLcF_imp σ H _ (own_imp σ H Q w)
theorem ds_ret (he : DE X e f) : DS X (.Return (some e) pos) (sRet f) := (ps_ret he).imp fun σ H Q ⟨S, W, H0, δ, st, o, st', rs, so, e, q⟩ => by
  obtain ⟨d, s1, ea, e⟩ := bd_inv e
  obtain ⟨e1, e2⟩ := ret_inv e
  subst e1 e2
  exact ⟨S, δ, st, d, _, rs.rs, so, ea, fun v H1 L x1 so1 r => q v H1 L (rs.he.trans (x1.mono fun b e => e ▸ rs.wA)) so1 r⟩
theorem ds_retN : DS X (.Return none pos) sRetN := ps_retN.imp fun σ H Q ⟨S, W, H0, δ, st, o, st', rs, so, e, q⟩ => by
  obtain ⟨e1, e2⟩ := ret_inv e
  subst e1 e2
  exact q _ H [] rs.he so .non
theorem ds_if {c : Expr} {a b : List Stmt} {t : Ev → M Bool} (hc : DT X c t) (ha : DSs X a g) (hb : DSs X b g') : DS X (.If c a b pos) (sIf t g g') := (ps_if hc ha hb).imp fun σ H Q ⟨S, W, H0, δ, st, o, st', rs, so, e, q⟩ => by
  obtain ⟨k, s1, ea, e⟩ := bd_inv e
  refine ⟨S, δ, st, k, s1, rs.rs, so, ea, fun H1 x1 so1 => ?_⟩
  cases k with
  | true =>
    rw [if_pos rfl] at e
    exact iteT ⟨S, W, H0, δ, s1, o, st', rs.ext x1, so1, e, q⟩
  | false =>
    rw [if_neg Bool.false_ne_true] at e
    exact iteF ⟨S, W, H0, δ, s1, o, st', rs.ext x1, so1, e, q⟩
theorem ds_no : DS X s sNo := ps_never.imp fun σ H Q ⟨S, W, H0, δ, st, o, st', rs, so, e, q⟩ => by cases e
theorem ds_bk : DS X (.Break pos) sBk := ps_break.imp fun σ H Q ⟨S, W, H0, δ, st, o, st', rs, so, e, q⟩ => by
  obtain ⟨e1, e2⟩ := ret_inv e
  subst e1 e2
  exact q σ H rs so
theorem ds_ct : DS X (.Continue pos) sCt := ps_continue.imp fun σ H Q ⟨S, W, H0, δ, st, o, st', rs, so, e, q⟩ => by
  obtain ⟨e1, e2⟩ := ret_inv e
  subst e1 e2
  exact q σ H rs so
end
end DL
set_option Elab.async false
set_option linter.all false
set_option maxRecDepth 100000
set_option maxHeartbeats 4000000
/-! DL5: loops, stores into lists, several targets, defs and their calls. -/
namespace DL
open PySem PySem.Spec PyProof.Rows L2

/-! ### targets of statements -/
def tGSt (g : D → Ev → Option Ev) : TG := fun v σ H Q => ∃ S W H0 δ d δ', RS S W H0 H σ δ ∧ Rp S H v d [] ∧ g d δ = some δ' ∧ ∀ σ', RS S W H0 H σ' δ' → Q σ' H
def tGSs (g : List D → Ev → Option Ev) : TGs := fun vs σ H Q => ∃ S W H0 δ ds δ', RS S W H0 H σ δ ∧ Rps S H vs ds [] ∧ g ds δ = some δ' ∧ ∀ σ', RS S W H0 H σ' δ' → Q σ' H
abbrev SG (X : Cx) (e : Expr) (g : D → Ev → Option Ev) : Prop := PG X e (tGSt g)
abbrev SGs (X : Cx) (es : List Expr) (g : List D → Ev → Option Ev) : Prop := PGs X es (tGSs g)
theorem Rps.nilc {S : Sr} {H : Hp} {v : V} {vs : List V} {d : D} {ds : List D} {L : List Addr} (r : Rps S H (v :: vs) (d :: ds) L) (h : L = []) : Rp S H v d [] ∧ Rps S H vs ds [] := by
  cases r with
  | cons r rs =>
    obtain ⟨e1, e2⟩ := List.append_eq_nil_iff.mp h
    subst e1 e2
    exact ⟨r, rs⟩
section
variable {X : Cx} {pos : Pos}
theorem sg_name {i : Nat} {x : Str} (hN : X.N.Nodup) (hi : X.N[i]? = some x) (hx : Loc X.env.scope x) (hf : X.fn x = true ∨ X.env.scope.names.lookup x = some .local := by first | exact .inl rfl | exact .inr rfl | assumption) : SG X (.Name x pos) (gN i) :=
  (pg_name hN hi hx hf).imp fun v σ H Q ⟨S, W, H0, δ, d, δ', rs, r, e, q⟩ => by
  cases e
  exact q _ (rs.put_lf r)
theorem sgs_nil : SGs X [] gs0 := pgs_nil.imp fun v σ H Q ⟨S, W, H0, δ, ds, δ', rs, r, e, q⟩ => by
  cases ds with
  | nil =>
    cases r
    cases e
    exact ⟨rfl, q σ rs⟩
  | cons d ds => cases e
theorem sgs_cons {e : Expr} {es : List Expr} {g : D → Ev → Option Ev} {gs : List D → Ev → Option Ev} (h1 : SG X e g) (h2 : SGs X es gs)
    (hs : (assignEach (e :: es) X.env).map (·.2) = assign e X.env :: (assignEach es X.env).map (·.2) := by rfl) : SGs X (e :: es) (gsC g gs) := (pgs_cons h1 h2 hs).imp fun v σ H Q ⟨S, W, H0, δ, ds, δ', rs, r, e, q⟩ => by
  cases ds with
  | nil => cases e
  | cons d ds =>
    cases v with
    | nil => cases r
    | cons v vs =>
      obtain ⟨r1, r2⟩ := r.nilc rfl
      obtain ⟨δ1, e1, e2⟩ := Option.bind_eq_some_iff.mp (show (g d δ).bind (gs ds) = some δ' from e)
      exact ⟨v, vs, rfl, S, W, H0, δ, d, δ1, rs, r1, e1, fun σ' rs1 => ⟨S, W, H0, δ1, ds, δ', rs1, r2, e2, q⟩⟩
theorem sg_tup {es : List Expr} {k : Nat} {n : Nat} {gs : List D → Ev → Option Ev} (hc : X.calm = true) (h : SGs X es gs)
    (hn : (assignEach es X.env).length = n := by rfl) (hst : (assignEach es X.env).findIdx? (·.1) = none := by rfl) : SG X (.Tuple es k pos) (gT n gs) := (pg_tup hc h hn hst).imp fun v σ H Q ⟨S, W, H0, δ, d, δ', rs, r, e, q⟩ => by
  cases d with
  | tup ds =>
    have e : (if ds.length = n then gs ds δ else none) = some δ' := e
    obtain ⟨a, vs', rfl, ha, rr⟩ := r.itup
    by_cases hl : ds.length = n
    · rw [if_pos hl] at e
      exact ⟨a, vs', rfl, (.inl ha), rr.len.trans hl, S, W, H0, δ, ds, δ', rs, rr, e, q⟩
    · rw [if_neg hl] at e; cases e
  | _ => cases e
/-- target = value without lists -/
def sTg (f : FE) (g : D → Ev → Option Ev) : FS := fun δ => (f δ).bd fun d => (M.of (if d.lf = true then g d δ else none)).bd fun δ' => M.ret (.nx δ')
theorem ds_asg {tg e : Expr} {f : FE} {g : D → Ev → Option Ev} (he : DE X e f) (hg : SG X tg g) (hs : swapsWithSole [tg] e pos.line X.env = pure false := by rfl) (hw : swappedStores [tg] e X.env = pure none := by rfl)
    (h1 : (assignEach [tg] X.env).map (·.2) = [assign tg X.env] := by rfl) : DS X (.Assign [tg] e pos) (sTg f g) := (ps_asg he hg hs hw h1).imp fun σ H Q ⟨S, W, H0, δ, st, o, st', rs, so, e, q⟩ => by
  obtain ⟨d, s1, ea, e⟩ := bd_inv e
  obtain ⟨δ', s2, eb, e⟩ := bd_inv e
  obtain ⟨e1, e2⟩ := ret_inv e
  obtain ⟨e3, e4⟩ := of_inv eb
  clear e eb
  subst e1 e2 e4
  by_cases hl : d.lf = true
  · rw [if_pos hl] at e3
    refine ⟨S, δ, st, d, _, rs.rs, so, ea, fun v H1 L x1 so1 r => ⟨S, W, H0, δ, d, δ', rs.ext x1, ?_, e3, fun σ' rs' => q σ' H1 rs' so1⟩⟩
    have hL := r.nil hl
    subst hL
    exact r
  · rw [if_neg hl] at e3; cases e3
/-- a, b, .. = a list of things without lists -/
def sTl (f : FE) (n : Nat) (gs : List D → Ev → Option Ev) : FS := fun δ => (f δ).bd fun d => (M.of (match d with | .lst ds => if ds.length = n ∧ lfs ds = true then gs ds δ else none | _ => none)).bd fun δ' => M.ret (.nx δ')
theorem ds_asgL {es : List Expr} {k : Nat} {e : Expr} {f : FE} {n : Nat} {gs : List D → Ev → Option Ev} {tpos : Pos} (hc : X.calm = true) (he : DE X e f) (h : SGs X es gs)
    (hn : (assignEach es X.env).length = n := by rfl) (hst : (assignEach es X.env).findIdx? (·.1) = none := by rfl) (hs : swapsWithSole [.Tuple es k tpos] e pos.line X.env = pure false := by rfl) (hw : swappedStores [.Tuple es k tpos] e X.env = pure none := by rfl)
    (h1 : (assignEach [.Tuple es k tpos] X.env).map (·.2) = [assign (.Tuple es k tpos) X.env] := by rfl) : DS X (.Assign [.Tuple es k tpos] e pos) (sTl f n gs) := (ps_asg he (pg_unl hc h hn hst) hs hw h1).imp fun σ H Q ⟨S, W, H0, δ, st, o, st', rs, so, e, q⟩ => by
  obtain ⟨d, s1, ea, e⟩ := bd_inv e
  obtain ⟨δ', s2, eb, e⟩ := bd_inv e
  obtain ⟨e1, e2⟩ := ret_inv e
  obtain ⟨e3, e4⟩ := of_inv eb
  clear e eb
  subst e1 e2 e4
  cases d with
  | lst ds =>
    have e3 : (if ds.length = n ∧ lfs ds = true then gs ds δ else none) = some δ' := e3
    by_cases hl : ds.length = n ∧ lfs ds = true
    · rw [if_pos hl] at e3
      refine ⟨S, δ, st, _, _, rs.rs, so, ea, fun v H1 L x1 so1 r => ?_⟩
      obtain ⟨a, vs, L', rfl, ha, na, rr, rfl⟩ := r.ilst
      have hL := rr.nils hl.2
      subst hL
      exact ⟨a, vs, rfl, SqL.of ha, rr.len.trans hl.1, S, W, H0, δ, ds, δ', rs.ext x1, rr, e3, fun σ' rs' => q σ' H1 rs' so1⟩
    · rw [if_neg hl] at e3; cases e3
  | _ => cases e3
/-- a, b = x, y (plain locals, stored from the right) -/
def sPar (i j : Nat) (fs : Ev → M (List D)) : FS := fun δ => (fs δ).bd fun ds => match ds with | [d, e] => if lfs [d, e] = true then M.ret (.nx ((δ.set i (.rd d)).set j (.rd e))) else M.no | _ => M.no
theorem ds_par {i j : Nat} {x y : Str} {a b : Expr} {fs : Ev → M (List D)} {px py pt : Pos} {kt k2 pt2} (hc : X.calm = true) (hN : X.N.Nodup) (hi : X.N[i]? = some x) (hj : X.N[j]? = some y) (hij : i ≠ j)
    (hx : X.env.scope.names.lookup x = some .local) (hy : X.env.scope.names.lookup y = some .local) (ha : DA X [a, b] fs)
    (hw : swappedStores [.Tuple [.Name x px, .Name y py] kt pt] (.Tuple [a, b] k2 pt2) X.env = pure (some [x, y]) := by rfl)
    (hs : swapsWithSole [.Tuple [.Name x px, .Name y py] kt pt] (.Tuple [a, b] k2 pt2) pos.line X.env = pure false := by rfl) :
    DS X (.Assign [.Tuple [.Name x px, .Name y py] kt pt] (.Tuple [a, b] k2 pt2) pos) (sPar i j fs) := (ps_par hc hN hi hj hij hx hy ha hw hs).imp fun σ H Q ⟨S, W, H0, δ, st, o, st', rs, so, e, q⟩ => by
  obtain ⟨ds, s1, ea, e⟩ := bd_inv e
  match ds, e with
  | [d, e0], e =>
    by_cases hl : lfs [d, e0] = true
    · have e : (if lfs [d, e0] = true then M.ret (.nx ((δ.set i (.rd d)).set j (.rd e0))) else M.no) s1 = some (o, st') := e
      rw [if_pos hl] at e
      obtain ⟨e1, e2⟩ := ret_inv e
      subst e1 e2
      refine ⟨S, δ, st, _, _, rs.rs, so, ea, fun vs H1 L x1 so1 r => ?_⟩
      have hL := r.nils hl
      subst hL
      obtain ⟨v, w, rfl⟩ : ∃ v w, vs = [v, w] := by
        obtain ⟨v, w, _, _, z, _⟩ := r.i2
        exact ⟨v, w, z⟩
      obtain ⟨r1, r2⟩ := r.nilc rfl
      exact ⟨v, w, rfl, q _ H1 (((rs.ext x1).put_lf r1).put_lf (r2.nilc rfl).1) so1⟩
    · have e : (if lfs [d, e0] = true then M.ret (.nx ((δ.set i (.rd d)).set j (.rd e0))) else M.no) s1 = some (o, st') := e
      rw [if_neg hl] at e; cases e
def sPar3 (i j l : Nat) (fs : Ev → M (List D)) : FS := fun δ => (fs δ).bd fun ds => match ds with | [d, e, f] => if lfs [d, e, f] = true then M.ret (.nx (((δ.set i (.rd d)).set j (.rd e)).set l (.rd f))) else M.no | _ => M.no
theorem ds_par3 {i j l : Nat} {x y z : Str} {a b c : Expr} {fs : Ev → M (List D)} {px py pz pt : Pos} {kt k2 pt2} (hc : X.calm = true) (hN : X.N.Nodup) (hi : X.N[i]? = some x) (hj : X.N[j]? = some y) (hl : X.N[l]? = some z) (hij : i ≠ j) (hil : i ≠ l) (hjl : j ≠ l)
    (hx : X.env.scope.names.lookup x = some .local) (hy : X.env.scope.names.lookup y = some .local) (hz : X.env.scope.names.lookup z = some .local) (ha : DA X [a, b, c] fs)
    (hw : swappedStores [.Tuple [.Name x px, .Name y py, .Name z pz] kt pt] (.Tuple [a, b, c] k2 pt2) X.env = pure (some [x, y, z]) := by rfl)
    (hs : swapsWithSole [.Tuple [.Name x px, .Name y py, .Name z pz] kt pt] (.Tuple [a, b, c] k2 pt2) pos.line X.env = pure false := by rfl) :
    DS X (.Assign [.Tuple [.Name x px, .Name y py, .Name z pz] kt pt] (.Tuple [a, b, c] k2 pt2) pos) (sPar3 i j l fs) := (ps_par3 hc hN hi hj hl hij hil hjl hx hy hz ha hw hs).imp fun σ H Q ⟨S, W, H0, δ, st, o, st', rs, so, e, q⟩ => by
  obtain ⟨ds, s1, ea, e⟩ := bd_inv e
  match ds, e with
  | [d, e0, f0], e =>
    have e : (if lfs [d, e0, f0] = true then M.ret (.nx (((δ.set i (.rd d)).set j (.rd e0)).set l (.rd f0))) else M.no) s1 = some (o, st') := e
    by_cases hl : lfs [d, e0, f0] = true
    · rw [if_pos hl] at e
      obtain ⟨e1, e2⟩ := ret_inv e
      subst e1 e2
      refine ⟨S, δ, st, _, _, rs.rs, so, ea, fun vs H1 L x1 so1 r => ?_⟩
      have hL := r.nils hl
      subst hL
      obtain ⟨v, w, u, rfl⟩ : ∃ v w u, vs = [v, w, u] := by
        obtain ⟨v, w, u, _, _, _, z, _⟩ := r.i3
        exact ⟨v, w, u, z⟩
      obtain ⟨r1, r2⟩ := r.nilc rfl
      obtain ⟨r2, r3⟩ := r2.nilc rfl
      exact ⟨v, w, u, rfl, q _ H1 ((((rs.ext x1).put_lf r1).put_lf r2).put_lf (r3.nilc rfl).1) so1⟩
    · rw [if_neg hl] at e; cases e
/-- x op= e -/
def sAug (i : Nat) (o : D → D → Option D) (f : FE) : FS := fun δ => (M.of (gt δ i)).bd fun x => (f δ).bd fun y => (M.of (o x y)).bd fun z => if z.lf = true then M.ret (.nx (δ.set i (.rd z))) else M.no
theorem o_iadd : OpR X (inplaceOp .Add) (rD2 fun a b => match a, b with | .int i, .int j => some (.int (i + j)) | _, _ => none) := o_ints (gD := fun i j => .int (i + j)) iop_add (fun a b d e => by cases a <;> cases b <;> cases e; exact ⟨_, _, rfl, rfl, rfl⟩) fun _ _ _ _ => .int _
theorem o_isub : OpR X (inplaceOp .Sub) (rD2 dSub) := o_ints (gD := fun i j => .int (i - j)) iop_sub (fun a b d e => by cases a <;> cases b <;> cases e; exact ⟨_, _, rfl, rfl, rfl⟩) fun _ _ _ _ => .int _
theorem ds_aug {i : Nat} {x : Str} {e : Expr} {f : FE} {op : Operator} {o : D → D → Option D} {pos' : Pos} (hN : X.N.Nodup) (hi : X.N[i]? = some x) (hx : Loc X.env.scope x) (he : DE X e f) (ho : OpR X (inplaceOp op) (rD2 o)) (hf : X.fn x = true ∨ X.env.scope.names.lookup x = some .local := by first | exact .inl rfl | exact .inr rfl | assumption) :
    DS X (.AugAssign (.Name x pos') op e pos) (sAug i o f) := (ps_aug (ti := rD2 o) hN hi hx he (fun pins s σ H x y v u Q I r1 r2 h => ho pins s σ H x y v u Q I r1 r2 h) hf).imp fun σ H Q ⟨S, W, H0, δ, st, o', st', rs, so, e, q⟩ => by
  obtain ⟨x, s0, e0, e3⟩ := bd_inv e
  obtain ⟨g0, g1⟩ := of_inv e0
  clear e0 e
  subst g1
  obtain ⟨y, s1, ea, e4⟩ := bd_inv e3
  clear e3
  obtain ⟨z, s2, eb, e⟩ := bd_inv e4
  obtain ⟨h0, h1⟩ := of_inv eb
  clear eb e4
  subst h1
  by_cases hl : z.lf = true
  · rw [if_pos hl] at e
    obtain ⟨e1, e2⟩ := ret_inv e
    clear e
    subst e1 e2
    obtain ⟨v, L, hv, rv⟩ := rs.rs.at_ i x g0
    refine ⟨v, hv, S, δ, _, y, _, rs.rs, so, ea, fun w H1 L1 x1 so1 r1 => ⟨S, x, y, z, L, L1, so1.tr, rv.extS x1, r1, h0, fun u H2 L2' x2 r2 => q _ H2 ?_ (so1.ext0 x2)⟩⟩
    have hL := r2.nil hl
    subst hL
    exact (rs.ext (x1.trans x2.up0)).put_lf r2
  · rw [if_neg hl] at e; cases e

/-! ### stores into lists -/
/-- x.append(e) -/
def sApp (i : Nat) (f : FE) : FS := fun δ => match δ[i]? with
  | some (.ow (.lst ds)) => (f δ).bd fun d => if d.lf = true ∧ ds.length < 1000000 then M.ret (.nx (δ.set i (.ow (.lst (ds ++ [d]))))) else M.no
  | _ => M.no
theorem ds_app {i : Nat} {x : Str} {e : Expr} {f : FE} {apos cpos p : Pos} (hi : X.N[i]? = some x) (hv : Vis X.env.scope x) (he : DE X e f)
    (hs : swapsWith (.Call (.Attribute (.Name x p) "append" apos) [e] [] cpos) none pos.line X.env = pure false := by rfl)
    (hbase : attributeBase (.Name x p) "append" X.env (eval (.Name x p) X.env) = eval (.Name x p) X.env := by rfl)
    (hfew : ((backTo cpos (starEach [e] X.env)).all (fun x => !x.1) && (backToKw cpos (keywordEach [] X.env)).all (fun x => x.1.isSome) && decide (([e] : List Expr).length + ([] : List Keyword).length + (if ([] : List Keyword).isEmpty then 0 else 1) < 30)) = true := by rfl)
    (hline : (apos.endLine == cpos.line) = true := by rfl) (hst : starEach [e] X.env = (false, eval e X.env) :: starEach [] X.env := by rfl) (hplain : (backTo cpos (starEach [] X.env)).any (·.1) = false := by rfl)
    (hd : (x == ("__debug__" : Str)) = false := by decide) (hcd : (x == ("__classdict__" : Str)) = false := by decide) :
    DS X (.Expr (.Call (.Attribute (.Name x p) "append" apos) [e] [] cpos) pos) (sApp i f) :=
  (ps_expr (pe_bm PySem.F.plainAttrs_list PySem.F.slot_list_append PySem.F.type_list_append mt_append (pe_var hi hv hd hcd) (pa_cons he pa_nil hst) hbase hfew hline hst hplain) hs).imp fun σ H Q ⟨S, W, H0, δ, st, o, st', rs, so, e, q⟩ => by
  unfold sApp at e
  cases ei : δ[i]? with
  | none => rw [ei] at e; cases e
  | some sl =>
    rw [ei] at e
    cases sl with
    | ow d =>
      cases d with
      | lst ds =>
        obtain ⟨d, s1, ea, e⟩ := bd_inv (show ((f δ).bd fun d => if d.lf = true ∧ ds.length < 1000000 then M.ret (.nx (δ.set i (.ow (.lst (ds ++ [d]))))) else M.no) st = some (o, st') from e)
        by_cases hl : d.lf = true ∧ ds.length < 1000000
        · rw [if_pos hl] at e
          obtain ⟨e1, e2⟩ := ret_inv e
          subst e1 e2
          obtain ⟨a, vs, L, hσ, hH, nh, rr, nd⟩ := rs.own ei
          refine ⟨.ref a, hσ, .inl ⟨rfl, _, SqL.of hH⟩, S, δ, st, d, _, rs.rs, so, ea, fun v H1 L1 x1 so1 r1 => ?_⟩
          have hL := r1.nil hl.1
          subst hL
          have hH1 : H1 a = some (.lst vs) := x1.lst _ _ (fun z => nh (z ▸ S.hA)) hH
          refine ⟨a, vs, v, rfl, rfl, hH1, Nat.lt_of_lt_of_le (by rw [rr.len]; exact hl.2) (size_ok (Nat.le_refl _)), ?_⟩
          have rr1 := rr.extS x1
          have nd' := List.nodup_cons.mp nd
          have rr2 := rr1.append (Rps.one r1)
          rw [List.append_nil] at rr2
          exact q σ _ ((rs.ext x1).wr (L' := L) ei hσ hH1 rr1 (rr2.ext (HE.writeN hH1) fun b hb z => nd'.1 (z ▸ hb)) nd'.2 (fun b hb => hb) nd'.1) (so1.wr nh)
        · rw [if_neg hl] at e; cases e
      | _ => cases e
    | _ => cases e
/-- x[k] = e, x a list of things without lists -/
def sSub (i : Nat) (fk f : FE) : FS := fun δ => (f δ).bd fun d => (fk δ).bd fun k => match δ[i]?, k with
  | some (.ow (.lst ds)), .int n => if d.lf = true ∧ lfs ds = true then (M.of ((ixN ds.length n).map fun j => Out.nx (δ.set i (.ow (.lst (ds.set j d)))))) else M.no
  | _, _ => M.no
theorem lfs_set {d : D} (hd : d.lf = true) : ∀ {ds : List D} (j : Nat), lfs ds = true → lfs (ds.set j d) = true
  | [], _, h => h
  | x :: xs, 0, h => by simp only [lfs, List.set_cons_zero, Bool.and_eq_true] at *; exact ⟨hd, h.2⟩
  | x :: xs, j + 1, h => by simp only [lfs, List.set_cons_succ, Bool.and_eq_true] at *; exact ⟨h.1, lfs_set hd j h.2⟩
theorem Rps.set {S : Sr} {H : Hp} {v : V} {d : D} (r : Rp S H v d []) : ∀ {vs : List V} {ds : List D} (j : Nat), Rps S H vs ds [] → Rps S H (vs.set j v) (ds.set j d) []
  | [], _, _, h => by cases h; exact .nil
  | x :: xs, [], _, h => by cases h
  | x :: xs, e :: es, 0, h => by
    obtain ⟨h1, h2⟩ := h.nilc rfl
    exact .cons r h2
  | x :: xs, e :: es, j + 1, h => by
    obtain ⟨h1, h2⟩ := h.nilc rfl
    exact .cons h1 (Rps.set r j h2)
theorem ds_sub {i : Nat} {x : Str} {k e : Expr} {fk f : FE} {p spos : Pos} (hi : X.N[i]? = some x) (hv : Vis X.env.scope x) (hk : DE X k fk) (he : DE X e f)
    (ha : ∀ v, assign (.Subscript (.Name x p) k spos) X.env v = (do
      let ov ← holding [v] (eval (.Name x p) X.env)
      let iv ← holding [v, ov] (eval k X.env)
      standAt spos
      holding [v, ov, iv] (setItem ov iv v)
      release [v, ov, iv] []) := by intro _; rfl)
    (hs : swapsWithSole [.Subscript (.Name x p) k spos] e pos.line X.env = pure false := by rfl) (hw : swappedStores [.Subscript (.Name x p) k spos] e X.env = pure none := by rfl)
    (h1 : (assignEach [.Subscript (.Name x p) k spos] X.env).map (·.2) = [assign (.Subscript (.Name x p) k spos) X.env] := by rfl)
    (hd : (x == ("__debug__" : Str)) = false := by decide) (hcd : (x == ("__classdict__" : Str)) = false := by decide) : DS X (.Assign [.Subscript (.Name x p) k spos] e pos) (sSub i fk f) :=
  (ps_asg he (pg_sub (pe_var hi hv hd hcd) hk set_list ha) hs hw h1).imp fun σ H Q ⟨S, W, H0, δ, st, o, st', rs, so, e, q⟩ => by
  obtain ⟨d, s1, ea, e⟩ := bd_inv e
  obtain ⟨kd, s2, eb, e⟩ := bd_inv e
  cases ei : δ[i]? with
  | none => rw [ei] at e; cases e
  | some sl =>
    rw [ei] at e
    cases sl with
    | ow d0 =>
      cases d0 with
      | lst ds =>
        cases kd with
        | int n =>
          have e : (if d.lf = true ∧ lfs ds = true then (M.of ((ixN ds.length n).map fun j => Out.nx (δ.set i (.ow (.lst (ds.set j d)))))) else M.no) s2 = some (o, st') := e
          by_cases hl : d.lf = true ∧ lfs ds = true
          · rw [if_pos hl] at e
            obtain ⟨e1, e2⟩ := of_inv e
            clear e
            subst e2
            obtain ⟨j, e3, e4⟩ := Option.map_eq_some_iff.mp e1
            subst e4
            refine ⟨S, δ, st, d, s1, rs.rs, so, ea, fun v H1 L1 x1 so1 r1 => ?_⟩
            have hL := r1.nil hl.1
            subst hL
            obtain ⟨a, vs, L, hσ, hH, nh, rr, nd⟩ := (rs.ext x1).own ei
            refine ⟨.ref a, hσ, S, δ, s1, _, _, (rs.ext x1).rs, so1, eb, fun w H2 L2' x2 so2 r2 => ?_⟩
            obtain ⟨rfl, rfl⟩ := r2.iint
            have hH2 : H2 a = some (.lst vs) := x2.lst _ _ (fun z => nh (z ▸ S.hA)) hH
            have rr2 := rr.extS x2
            have hLn := rr2.nils hl.2
            subst hLn
            refine ⟨a, vs, n, j, rfl, rfl, hH2, by rw [rr.len]; exact e3, ?_⟩
            exact q σ _ ((rs.ext (x1.trans x2)).wr (L' := []) ei hσ hH2 rr2 ((Rps.set (r1.extS x2) j rr2).ext (HE.writeN hH2) fun _ z => nomatch z) List.nodup_nil (fun _ z => nomatch z) (fun z => nomatch z)) (so2.wr nh)
          · rw [if_neg hl] at e; cases e
        | _ => cases e
      | _ => cases e
    | _ => cases e
end

/-! ### loops -/
def fLp (tg : D → Ev → Option Ev) (body : FS) : List D → Ev → M Out
  | [], δ => M.ret (.nx δ)
  | x :: xs, δ => (M.of (if x.lf = true then tg x δ else none)).bd fun δ1 => (body δ1).bd fun o => match o with
    | .nx δ2 => fLp tg body xs δ2
    | .ct δ2 => fLp tg body xs δ2
    | .bk δ2 => M.ret (.nx δ2)
    | .rt d => M.ret (.rt d)
def sFor (h : FI) (tg : D → Ev → Option Ev) (body : FS) : FS := fun δ => (h δ).bd fun ds => fLp tg body ds δ
def sForN (h : FI) (tg : D → Ev → Option Ev) (body : FS) : FS := fun δ => (h δ).bd fun ds => if noOw δ = true then fLp tg body ds δ else M.no
theorem RS.enter {S : Sr} {W : Addr → Prop} {H0 H H1 : Hp} {σ : L2.St} {δ : Ev} {La : List Addr} (r : RS S W H0 H σ δ) (x : Ext S H H1) (la : ∀ a ∈ La, ¬ S.hid a ∧ ∃ xs, H1 a = some (.lst xs))
    (ap : ∀ (i : Nat) (d : D), δ[i]? = some (Sl.ow d) → ∀ v L, σ[i]? = some (some v) → Rp S H v d L → ∀ a ∈ L, a ∉ La) : RS S (fun b => W b ∧ b ∉ La) H1 H1 σ δ where
  len := r.len
  he := HE.refl
  wA := ⟨r.wA, fun z => (la _ z).1 S.hA⟩
  wn := fun b e => ⟨r.wn b (r.he.new b (x.new b e)), fun z => by
    obtain ⟨_, xs, q⟩ := la b z
    rw [e] at q; cases q⟩
  sl := by
    obtain ⟨Λ, h, h2⟩ := r.sl
    refine ⟨Λ, fun i d e => ?_, fun i d e => ?_⟩
    · obtain ⟨v, a, b⟩ := h i d e
      exact ⟨v, a, b.extS x⟩
    · obtain ⟨v, a, b⟩ := h i d (gt_ow e)
      obtain ⟨n, w⟩ := h2 i d e
      exact ⟨n, fun c hc => ⟨⟨(w c hc).1, ap i d e v _ a b c hc⟩, (w c hc).2⟩⟩
theorem RS.leave {S : Sr} {W W2 : Addr → Prop} {H0 H1 H : Hp} {σ : L2.St} {δ : Ev} (r : RS S W2 H1 H σ δ) (he : HE W H0 H1) (sub : ∀ b, W2 b → W b) (wA : W S.dA) (wn : ∀ b, H0 b = none → W b) : RS S W H0 H σ δ where
  len := r.len
  he := he.trans (r.he.mono sub)
  wA := wA
  wn := wn
  sl := by
    obtain ⟨Λ, h, h2⟩ := r.sl
    exact ⟨Λ, h, fun i d e => ⟨(h2 i d e).1, fun a ha => ⟨sub a ((h2 i d e).2 a ha).1, ((h2 i d e).2 a ha).2⟩⟩⟩
theorem for_core {h : FI} {tg : D → Ev → Option Ev} {body : FS} {S : Sr} {W : Addr → Prop} {H0 H H1 : Hp} {σ : L2.St} {δ : Ev} {Q : Ends} {s1 st' : Src} {o : Out} {ds : List D} {J : It} {La : List Addr} (rs : RS S W H0 H σ δ) (x1 : Ext S H H1) (so1 : SrcOk S H1 s1) (wk : Wk S J H1 ds La)
    (ap : ∀ (i : Nat) (d : D), δ[i]? = some (Sl.ow d) → ∀ v L, σ[i]? = some (some v) → Rp S H v d L → ∀ a ∈ L, a ∉ La) (e : fLp tg body ds δ s1 = some (o, st')) (q : Post S W H0 st' Q o) :
    ∃ W : Nat → Nat → L2.St → Hp → Prop, (∃ m, W 0 m σ H1) ∧ ∀ i m σ H, W i m σ H →
      (J.stop i H ∧ Q.nx σ H) ∨ (J.go i H ∧ ∃ N : L2.St → Hp → Prop, (∀ σ' H', N σ' H' → ∃ m', m' < m ∧ W (i + 1) m' σ' H') ∧ ∀ x H', J.yld i H x H' → tGSt tg x σ H' fun σ2 H2 => tS body { Q with nx := N, ct := N, bk := Q.nx } σ2 H2) := by
  have he1 : HE W H0 H1 := rs.he.trans (x1.mono fun b e => e ▸ rs.wA)
  have out : ∀ {σ' : L2.St} {H' : Hp} {δ' : Ev}, RS S (fun b => W b ∧ b ∉ La) H1 H' σ' δ' → RS S W H0 H' σ' δ' := fun r => r.leave he1 (fun _ z => z.1) rs.wA rs.wn
  refine ⟨fun i m σ H => m = ds.length - i ∧ i ≤ ds.length ∧ ∃ δi sti, RS S (fun b => W b ∧ b ∉ La) H1 H σ δi ∧ SrcOk S H sti ∧ fLp tg body (ds.drop i) δi sti = some (o, st'), ⟨ds.length, rfl, Nat.zero_le _, δ, s1, rs.enter x1 wk.la ap, so1, e⟩, ?_⟩
  rintro i m σ2 H2 ⟨rfl, hi, δi, sti, rs2, so2, e2⟩
  have x2' : HE (fun b => b ∉ La) H1 H2 := rs2.he.mono fun b z => z.2
  by_cases hlt : i < ds.length
  · refine .inr ⟨wk.go i H2 x2' hlt, fun σ H => (fun i m σ H => m = ds.length - i ∧ i ≤ ds.length ∧ ∃ δi sti, RS S (fun b => W b ∧ b ∉ La) H1 H σ δi ∧ SrcOk S H sti ∧ fLp tg body (ds.drop i) δi sti = some (o, st')) (i + 1) (ds.length - (i + 1)) σ H, fun σ' H' hN => ⟨ds.length - (i + 1), by omega, hN⟩, fun x H3 y => ?_⟩
    obtain ⟨d, Ld, hd, x3, rd, hLd⟩ := wk.yld i H2 x H3 x2' so2.tr hlt y
    have hdrop : ds.drop i = d :: ds.drop (i + 1) := by
      have e1 := List.drop_eq_getElem_cons hlt
      have e3 : ds[i] = d := by
        have z := List.getElem?_eq_getElem hlt
        rw [z] at hd
        exact Option.some.inj hd
      rw [e1, e3]
    rw [hdrop, fLp] at e2
    obtain ⟨δ1, t1, eg0, ec3⟩ := bd_inv e2
    obtain ⟨eg, et⟩ := of_inv eg0
    clear eg0 e2
    subst et
    obtain ⟨o1, t2, eb, ec2⟩ := bd_inv ec3
    clear ec3
    by_cases hl : d.lf = true
    rotate_left
    · rw [if_neg hl] at eg; cases eg
    rw [if_pos hl] at eg
    have hL := rd.nil hl
    subst hL
    refine ⟨S, _, H1, δi, d, δ1, rs2.ext x3.up0, rd, eg, fun σ3 rs3 => ⟨S, _, H1, δ1, _, o1, t2, rs3, so2.ext0 x3, eb, ?_⟩⟩
    cases o1 with
    | nx δ2 => exact fun σ' H' r' s' => ⟨rfl, hlt, δ2, t2, r', s', ec2⟩
    | ct δ2 => exact fun σ' H' r' s' => ⟨rfl, hlt, δ2, t2, r', s', ec2⟩
    | bk δ2 =>
      obtain ⟨e3, e4⟩ := ret_inv ec2
      subst e3 e4
      exact fun σ' H' r' s' => q σ' H' (out r') s'
    | rt d2 =>
      obtain ⟨e3, e4⟩ := ret_inv ec2
      subst e3 e4
      exact fun v H' L x' s' r' => q v H' L (he1.trans (x'.mono fun _ z => z.1)) s' r'
  · have ei : ds.drop i = [] := List.drop_eq_nil_of_le (by omega)
    rw [ei, fLp] at e2
    obtain ⟨e3, e4⟩ := ret_inv e2
    subst e3 e4
    exact .inl ⟨wk.stop i H2 x2' (by omega), q σ2 H2 (out rs2) so2⟩
section
variable {X : Cx} {pos : Pos}
theorem ds_for {tg iter : Expr} {bd : List Stmt} {h : FI} {g : D → Ev → Option Ev} {body : FS} (hp : PassesOwn (model X.prog X.w) X.A X.env X.xe) (hc : X.calm = true) (hi : DIF X tg iter h) (hg : SG X tg g) (hb : DSs X bd body)
    (hs : ∀ x, foldedSetIterable iter X.env x = pure x := by intro _; rfl) : DS X (.For tg iter bd [] pos) (sFor h g body) := (ps_for hp hc hi hg hb hs).imp fun σ H Q ⟨S, W, H0, δ, st, o, st', rs, so, e, q⟩ => by
  obtain ⟨ds, s1, eh, e⟩ := bd_inv e
  refine ⟨S, δ, st, ds, s1, rs.rs, so, eh, fun J H1 La x1 so1 wk fr => for_core (h := h) rs x1 so1 wk (fun i d ei v L hv r a ha hL => ?_) e q⟩
  obtain ⟨_, xs, w⟩ := r.ne a ha
  rw [fr a hL] at w
  cases w
theorem ds_forN {tg iter : Expr} {bd : List Stmt} {h : FI} {g : D → Ev → Option Ev} {body : FS} (hp : PassesOwn (model X.prog X.w) X.A X.env X.xe) (hc : X.calm = true) (hi : DI X tg iter h) (hg : SG X tg g) (hb : DSs X bd body)
    (hs : ∀ x, foldedSetIterable iter X.env x = pure x := by intro _; rfl) : DS X (.For tg iter bd [] pos) (sForN h g body) := (ps_for hp hc hi hg hb hs).imp fun σ H Q ⟨S, W, H0, δ, st, o, st', rs, so, e, q⟩ => by
  obtain ⟨ds, s1, eh, e⟩ := bd_inv e
  by_cases hn : noOw δ = true
  · rw [if_pos hn] at e
    refine ⟨S, δ, st, ds, s1, rs.rs, so, eh, fun J H1 La x1 so1 wk => for_core (h := h) rs x1 so1 wk (fun i d ei v L hv r a ha hL => ?_) e q⟩
    exact absurd (List.all_eq_true.mp hn _ (List.mem_of_getElem? ei)) Bool.false_ne_true
  · rw [if_neg hn] at e; cases e
def wLp (c : Ev → M Bool) (body : FS) : Nat → Ev → M Out
  | 0, _ => M.no
  | n + 1, δ => (c δ).bd fun k => if k = true then (body δ).bd fun o => match o with
    | .nx δ2 => wLp c body n δ2
    | .ct δ2 => wLp c body n δ2
    | .bk δ2 => M.ret (.nx δ2)
    | .rt d => M.ret (.rt d)
    else M.ret (.nx δ)
theorem ds_while {c : Expr} {bd : List Stmt} {t : Ev → M Bool} {body : FS} (n : Nat) (hp : PassesOwn (model X.prog X.w) X.A X.env X.xe) (hc : DT X c t) (hb : DSs X bd body) : DS X (.While c bd [] pos) (wLp t body n) := (ps_while hp hc hb).imp fun σ H Q ⟨S, W, H0, δ, st, o, st', rs, so, e, q⟩ => by
  refine ⟨fun m σ H => ∃ δi sti, RS S W H0 H σ δi ∧ SrcOk S H sti ∧ wLp t body m δi sti = some (o, st'), ⟨n, δ, st, rs, so, e⟩, ?_⟩
  rintro m σ2 H2 ⟨δi, sti, rs2, so2, e2⟩
  cases m with
  | zero => cases e2
  | succ m =>
    rw [wLp] at e2
    obtain ⟨k, t1, ek, e3⟩ := bd_inv e2
    clear e2
    refine ⟨S, δi, sti, k, t1, rs2.rs, so2, ek, fun H3 x3 so3 => ?_⟩
    cases k with
    | false =>
      rw [if_neg Bool.false_ne_true] at e3
      obtain ⟨e4, e5⟩ := ret_inv e3
      subst e4 e5
      exact iteF (q σ2 H3 (rs2.ext x3) so3)
    | true =>
      rw [if_pos rfl] at e3
      obtain ⟨o1, t2, eb, e4⟩ := bd_inv e3
      clear e3
      refine iteT ⟨fun σ' H' => ∃ δi sti, RS S W H0 H' σ' δi ∧ SrcOk S H' sti ∧ wLp t body m δi sti = some (o, st'), fun σ' H' z => ⟨m, Nat.lt_succ_self m, z⟩, S, W, H0, δi, t1, o1, t2, rs2.ext x3, so3, eb, ?_⟩
      cases o1 with
      | nx δ2 => exact fun σ' H' r' s' => ⟨δ2, t2, r', s', e4⟩
      | ct δ2 => exact fun σ' H' r' s' => ⟨δ2, t2, r', s', e4⟩
      | bk δ2 =>
        obtain ⟨e5, e6⟩ := ret_inv e4
        subst e5 e6
        exact q
      | rt d2 =>
        obtain ⟨e5, e6⟩ := ret_inv e4
        subst e5 e6
        exact q
end

/-! ### defs -/
/-- a def's promise: over data, the function F -/
def spD (n : Nat) (F : List D → M D) : Sp := fun vs H Q _ => ∃ S ds L st d st', Rps S H vs ds L ∧ ds.length = n ∧ SrcOk S H st ∧ F ds st = some (d, st') ∧ ∀ v H' L', Ext S H H' → SrcOk S H' st' → Rp S H' v d L' → Q v H'
/-- the slots at the entry -/
def ent (n : Nat) (ds : List D) : Ev := ds.map .rd ++ List.replicate (n - ds.length) .no
/-- what a def's body makes of its arguments: n slots -/
def run (n : Nat) (g : FS) : List D → M D := fun ds => (g (ent n ds)).bd fun o => match o with
  | .rt d => M.ret d
  | .nx _ => M.ret .non
  | _ => M.no
theorem gt_ent {n : Nat} {ds : List D} {i : Nat} {d : D} (h : gt (ent n ds) i = some d) : ds[i]? = some d := by
  unfold gt ent at h
  by_cases hi : i < ds.length
  · rw [List.getElem?_append_left (by simpa using hi), List.getElem?_map] at h
    rw [List.getElem?_eq_getElem hi] at h ⊢
    exact h
  · rw [List.getElem?_append_right (by simpa using hi), List.getElem?_replicate] at h
    split at h <;> cases h
theorem ent_now {n : Nat} {ds : List D} {i : Nat} {d : D} (h : (ent n ds)[i]? = some (.ow d)) : False := by
  unfold ent at h
  by_cases hi : i < ds.length
  · rw [List.getElem?_append_left (by simpa using hi), List.getElem?_map, List.getElem?_eq_getElem hi] at h
    cases h
  · rw [List.getElem?_append_right (by simpa using hi), List.getElem?_replicate] at h
    split at h <;> cases h
section
variable {P : Program} {w : World} {K : PySem.W.Frag} {mg : Str → Option Value} {base : Heap}
theorem fn_ok {x qual : Str} {st : Stmt} {f : Addr} {fd : FuncData} {N ps : List Str} {k : Nat} {g : FS} (F : Fun K x qual st f fd) (Sc : FnScope N ps (defScope st)) (hps : ps.length ≤ N.length)
    (hbody : ∀ (cdv : Value) (A : Around) (outer : List Env) (s : Shared) (H : Hp) (E : XK), Room k (A.deeper (envOfC qual (defScope st) s.heap.objs.size f cdv)) → DSs (cxOf CX0 P w K mg base N qual (defScope st) f cdv A outer s H E).nox (defBody st) g) :
    FnOk P w K mg base CX0 (k + 1) f fd ps (spD ps.length (run N.length g)) := by
  refine F.ok Sc (fun vs H Q E ⟨S, ds, L, st, d, st', r, hl, _⟩ => r.len.trans hl) fun cdv A outer s H vs Q E hr ⟨S, ds, L, st, d, st', r, hl, so, e, q⟩ => ⟨tS g, hbody cdv A outer s H E hr, ?_⟩
  obtain ⟨o, s1, e1, e2⟩ := bd_inv e
  have hlv := r.len
  have rs : RS S (fun b => H b = none ∨ b = S.dA) H H (L2.start N vs) (ent N.length ds) := by
    refine ⟨?_, HE.refl, .inr rfl, fun b h => .inl h, ?_⟩
    · unfold L2.start ent
      rw [List.length_append, List.length_append, List.length_map, List.length_map, List.length_replicate, List.length_replicate, hlv]
    · have get : ∀ i d, gt (ent N.length ds) i = some d → ∃ v L, (L2.start N vs)[i]? = some (some v) ∧ Rp S H v d L := fun i d h => by
        obtain ⟨v, L', a, b, _⟩ := r.get (gt_ent h)
        refine ⟨v, L', ?_, b⟩
        unfold L2.start
        have hi : i < vs.length := (List.getElem?_eq_some_iff.mp a).1
        rw [List.getElem?_append_left (by simpa using hi), List.getElem?_map, a]
        rfl
      have ch : ∀ i : Nat, ∃ L : List Addr, ∀ d, gt (ent N.length ds) i = some d → ∃ v, (L2.start N vs)[i]? = some (some v) ∧ Rp S H v d L := fun i => by
        cases h : gt (ent N.length ds) i with
        | none => exact ⟨[], fun d z => nomatch z⟩
        | some d =>
          obtain ⟨v, L', a, b⟩ := get i d h
          exact ⟨L', fun d' z => by cases z; exact ⟨v, a, b⟩⟩
      obtain ⟨Λ, hΛ⟩ := Classical.axiomOfChoice ch
      exact ⟨Λ, fun i d h => hΛ i d h, fun i d h => (ent_now h).elim⟩
  refine ⟨S, _, H, ent N.length ds, st, o, s1, rs, so, e1, ?_⟩
  have wx : ∀ {H' : Hp}, HE (fun b => H b = none ∨ b = S.dA) H H' → Ext S H H' := fun {H'} x => ⟨x.tup, fun b xs n e => x.lst b xs (fun z => z.elim (fun z => by rw [z] at e; cases e) n) e, x.new, x.dk, x.fz⟩
  cases o with
  | nx δ =>
    obtain ⟨e3, e4⟩ := ret_inv e2
    subst e3 e4
    exact fun σ' H' r' s' => q .non H' [] (wx r'.he) s' .non
  | rt d2 =>
    obtain ⟨e3, e4⟩ := ret_inv e2
    subst e3 e4
    exact fun v H' L' x' s' r' => q v H' L' (wx x') s' r'
  | bk => cases e2
  | ct => cases e2
end
/-- f(..), an own def -/
def eFn (F : List D → M D) (fs : Ev → M (List D)) : FE := fun δ => (fs δ).bd F
section
variable {X : Cx} {CX : CXT} {k n : Nat} {f : Addr} {fd : FuncData} {ps : List Str} {F : List D → M D} {E : XK} {x : Str} {p pos : Pos} {e : Expr} {es : List Expr} {fs : Ev → M (List D)}
theorem d_fn (G : FnOk X.prog X.w X.K X.mg X.base CX k f fd ps (spD n F)) (hr : Room k X.A) (hg : Gl X x) (hm : X.mg x = some (.ref f)) (hk : PySem.W.keepIn X.K (.ref f) = true) (hb : Binds X.K fd ps []) (hx : Passes CX X E)
    (ha : DA X (e :: es) fs) (hn : (e :: es).length = n := by rfl) (hdb : (x == ("__debug__" : Str)) = false := by decide) (he : starEach (e :: es) X.env = (false, eval e X.env) :: starEach es X.env := by rfl) (hpl : (backTo pos (starEach es X.env)).any (·.1) = false := by rfl) :
    DE X (.Call (.Name x p) (e :: es) [] pos) (eFn (fun ds => if ds.length = n then F ds else M.no) fs) := (pe_call G hr hg hm hk hb .nil hx ha hdb he hpl).imp fun σ H Q ⟨S, δ, st, d, st', rs, so, e, q⟩ => by
  obtain ⟨ds, s1, ea, e⟩ := bd_inv e
  refine ⟨S, δ, st, ds, s1, rs, so, ea, fun vs H1 L1 x1 so1 r1 => ?_⟩
  by_cases hl : ds.length = n
  · rw [if_pos hl] at e
    exact ⟨S, ds, L1, s1, d, st', by rw [List.append_nil]; exact r1, hl, so1, e, fun v H' L' x' so' r' => q v H' L' (x1.trans x') so' r'⟩
  · rw [if_neg hl] at e; cases e
end
end DL
set_option Elab.async false
set_option linter.all false
set_option maxRecDepth 100000
set_option maxHeartbeats 4000000
/-! DL6: isinstance, chains, min of three, slices backwards, count, written dicts of texts. -/
namespace DL
open PySem PySem.Spec PyProof.Rows L2

/-! ### isinstance -/
def tyn : D → Option String
  | .non => some "NoneType"
  | .bl _ => some "bool"
  | .int _ => some "int"
  | .str _ => some "str"
  | .tup _ => some "tuple"
  | .lst _ => some "list"
  | .tupk _ => some "tuple"
  | _ => none
def isTy (n T : String) : Bool := n == T || (n == "bool" && T == "int")
def isiD (T : String) (d : D) : Option D := (tyn d).map fun n => .bl (isTy n T)
theorem Rp.ty {K : PySem.W.Frag} {S : Sr} {H : Hp} {v : V} {d : D} {L : List Addr} {n : String} (r : Rp S H v d L) (h : tyn d = some n) : TyX K H v (.type n) := by
  cases r with
  | non => cases h; exact .base .non
  | bl b => cases h; exact .base (.bl b)
  | int i => cases h; exact .base (.int i)
  | str x => cases h; exact .base (.str x)
  | tup e _ =>
    cases h
    rcases e with e | ⟨o, e⟩
    · exact .base (.tup e)
    · exact .fTuple e
  | lst e _ _ => cases h; exact .base (.lst e)
  | src => cases h
  | dct => cases h
  | rng => cases h
  | tupk e _ _ => cases h; exact .fTuple e
theorem kit_all {T : String} (h : (["NoneType", "bool", "int", "str", "tuple", "list"].all fun n => decide (kitB n T = some (isTy n T))) = true) {d : D} {n : String} (hn : tyn d = some n) : kitB n T = some (isTy n T) := by
  have hm : n ∈ ["NoneType", "bool", "int", "str", "tuple", "list"] := by
    cases d <;> cases hn <;> simp
  exact of_decide_eq_true (List.all_eq_true.mp h n hm)
section
variable {X : Cx} {e a b c : Expr} {es : List Expr} {f g h : FE} {fs : Ev → M (List D)} {pos : Pos}
theorem d_isi {T : Str} {n : String} {p p2 pos : Pos} (hg : Gl X "isinstance") (hm : X.mg "isinstance" = none) (hg2 : Gl X T) (hm2 : X.mg T = none) (hv2 : bootBuiltins T = some (.type n)) (he : DE X e f)
    (hk : (["NoneType", "bool", "int", "str", "tuple", "list"].all fun m => decide (kitB m n = some (isTy m n))) = true := by decide +kernel) (hn2 : T ≠ "__name__" := by decide) (hd2 : (T == ("__debug__" : Str)) = false := by decide)
    (hs : starEach [e, .Name T p2] X.env = (false, eval e X.env) :: starEach [.Name T p2] X.env := by rfl) (hs2 : starEach [.Name T p2] X.env = (false, eval (.Name T p2) X.env) :: starEach [] X.env := by rfl) (hpl : (backTo pos (starEach [.Name T p2] X.env)).any (·.1) = false := by rfl) :
    DE X (.Call (.Name "isinstance" p) [e, .Name T p2] [] pos) (e1 (isiD n) f) :=
  (pe_callB call_isi hg hm boot_isinstance (pa_cons he (pa_cons (pe_bltn hg2 hm2 hv2 (show RelV (.ty n) _ from rfl) hn2 hd2) pa_nil hs2) hs) (by decide) (by decide) hs hpl).imp fun σ H Q ⟨S, δ, st, d, st', rs, so, e, q⟩ => by
  obtain ⟨x, s1, ea, e3⟩ := bd_inv e
  obtain ⟨eo, es⟩ := of_inv e3
  clear e3
  subst es
  obtain ⟨m, e1, e2⟩ := Option.map_eq_some_iff.mp (show (tyn x).map (fun m => D.bl (isTy m n)) = some d from eo)
  subst e2
  exact ⟨S, δ, st, x, _, rs, so, ea, fun v H1 L x1 so1 r => ⟨v, .ty n, .type m, .type n, isTy m n, rfl, ClsV.ty n, r.ty e1, kit_ty (kit_all hk e1), q _ H1 [] x1 so1 (.bl _)⟩⟩

/-! ### chains of comparisons -/
def eCh (o o' : D → D → Option D) (f g h : FE) : FE := fun δ => (f δ).bd fun x => (g δ).bd fun y => (M.of (o x y)).bd fun z => match z with
  | .bl true => (h δ).bd fun u => M.of (o' y u)
  | .bl false => M.ret (.bl false)
  | _ => M.no
theorem tch_imp {o o' : D → D → Option D} : ∀ σ H Q, tD (eCh o o' f g h) σ H Q → tChain (rD2 o) (rD2 o') (tD f) (tD g) (tD h) σ H Q := fun σ H Q ⟨S, δ, st, d, st', rs, so, e, q⟩ => by
  obtain ⟨x, s1, ea, e2⟩ := bd_inv e
  obtain ⟨y, s2, eb, e3⟩ := bd_inv e2
  obtain ⟨z, s3, ec, e4⟩ := bd_inv e3
  obtain ⟨eo, es⟩ := of_inv ec
  clear ec e3 e2 e
  subst es
  refine ⟨S, δ, st, x, s1, rs, so, ea, fun v H1 L1 x1 so1 r1 => ⟨S, δ, s1, y, _, rs.extS x1, so1, eb, fun w H2 L2' x2 so2 r2 => ⟨S, x, y, z, L1, L2', so2.tr, r1.extS x2, r2, eo, fun zv H3 L3 x3 r3 => ?_⟩⟩⟩
  cases z with
  | bl k =>
    obtain ⟨rfl, rfl⟩ := r3.ibl
    refine ⟨k, rfl, ?_⟩
    cases k with
    | true =>
      obtain ⟨u, s4, eu, e5⟩ := bd_inv e4
      obtain ⟨eo2, es2⟩ := of_inv e5
      clear e5 e4
      subst es2
      refine iteT ⟨S, δ, _, u, _, rs.extS (x1.trans (x2.trans x3.up0)), so2.ext0 x3, eu, fun uv H4 L4 x4 so4 r4 => ⟨S, y, u, d, L2', L4, so4.tr, (r2.ext0 x3).extS x4, r4, eo2, fun dv H5 L5 x5 r5 => q dv H5 L5 (x1.trans (x2.trans ((x3.up0 : Ext S H2 H3).trans (x4.trans x5.up0)))) (so4.ext0 x5) r5⟩⟩
    | false =>
      obtain ⟨e5, e6⟩ := ret_inv e4
      subst e5 e6
      exact iteF (q _ H3 [] (x1.trans (x2.trans x3.up0)) (so2.ext0 x3) (.bl false))
  | _ => cases e4
theorem d_chain {op op' : CmpOp} {o o' : D → D → Option D} (ho : OpR X (compareOp op) (rD2 o)) (ho' : OpR X (compareOp op') (rD2 o')) (ha : DE X a f) (hb : DE X b g) (hc : DE X c h)
    (hm : lastMarks [op, op'] [b, c] = false := by with_unfolding_all rfl) : DE X (.Compare a [op, op'] [b, c] pos) (eCh o o' f g h) := (pe_chain ho ho' ha hb hc hm).imp tch_imp
theorem dt_chain {op op' : CmpOp} {o o' : D → D → Option D} (ho : OpR X (compareOp op) (rD2 o)) (ho' : OpR X (compareOp op') (rD2 o')) (ha : DE X a f) (hb : DE X b g) (hc : DE X c h)
    (hm : lastMarks [op, op'] [b, c] = false := by with_unfolding_all rfl) : DT X (.Compare a [op, op'] [b, c] pos) (bOf (eCh o o' f g h)) := (pt_chain ho ho' ha hb hc hm).imp fun σ H Q w => by
  obtain ⟨S, δ, st, d, st', rs, so, e, q⟩ := tB_of σ H Q w
  exact tch_imp σ H _ ⟨S, δ, st, d, st', rs, so, e, q⟩

/-! ### min of three -/
def bMin3 : List D → Option D
  | [.int a, .int b, .int c] => some (.int (if b < a then (if c < b then c else b) else (if c < a then c else a)))
  | _ => none
theorem b_min3 (hc : X.calm = true) : CallR X (.builtin "min") (rDs bMin3) := by
  intro pins s σ H xs us Q I r ⟨S, ds, d, La, hn, rs, e, q⟩
  match ds, e with
  | [.int i, .int j, .int k], e =>
    cases e
    obtain ⟨v, u, w, _, _, _, rfl, r1, r2, r3⟩ := rs.i3
    obtain ⟨rfl, rfl⟩ := r1.iint
    obtain ⟨rfl, rfl⟩ := r2.iint
    obtain ⟨rfl, rfl⟩ := r3.iint
    cases r with
    | cons p1 r =>
      obtain ⟨u2, u3, rfl, p2, p3⟩ := vals2 r
      obtain ⟨t1, rfl⟩ := p1
      obtain ⟨t2, rfl⟩ := p2
      obtain ⟨t3, rfl⟩ := p3
      refine min_three_ints (I.ok.hd hc) fun h' tk kk => ⟨_, H, I.kept kk, ?_, q _ _ _ HE.refl (.int _)⟩
      by_cases h1 : j < i
      · rw [if_pos h1, if_pos h1]
        by_cases h2 : k < j
        · rw [if_pos h2, if_pos h2]; exact ⟨_, rfl⟩
        · rw [if_neg h2, if_neg h2]; exact ⟨_, rfl⟩
      · rw [if_neg h1, if_neg h1]
        by_cases h2 : k < i
        · rw [if_pos h2, if_pos h2]; exact ⟨_, rfl⟩
        · rw [if_neg h2, if_neg h2]; exact ⟨_, rfl⟩

/-! ### xs[::-1], t[::-1] -/
theorem Rps.rev {S : Sr} {H : Hp} {vs : List V} {ds : List D} {L : List Addr} (r : Rps S H vs ds L) : ∃ L', Rps S H vs.reverse ds.reverse L' := by
  refine Rps.mk (by simp [r.len]) fun i d v h1 h2 => ?_
  have hi : i < ds.length := by simpa using (List.getElem?_eq_some_iff.mp h1).1
  rw [List.getElem?_reverse hi] at h1
  rw [List.getElem?_reverse (by rw [r.len]; exact hi), r.len] at h2
  obtain ⟨w, L', e1, e2, _⟩ := r.get h1
  rw [h2] at e1
  cases e1
  exact ⟨L', e2⟩
def eRevL (f : FE) : FE := e1 (fun d => match d with | .lst xs => some (.lst xs.reverse) | _ => none) f
theorem d_revL {k : Nat} {p1 p2 p3 : Pos} (he : DE X e f) : DE X (.Subscript e (.Slice none none (some (.UnaryOp .USub (.Constant (.int 1) k p1) p2)) p3) pos) (eRevL f) := (pe_revL he).imp fun σ H Q ⟨S, δ, st, d, st', rs, so, e, q⟩ => by
  obtain ⟨x, s1, ea, e3⟩ := bd_inv e
  obtain ⟨eo, es⟩ := of_inv e3
  clear e3
  subst es
  refine ⟨S, δ, st, x, _, rs, so, ea, fun v H1 L x1 so1 r => ?_⟩
  cases x with
  | lst xs =>
    cases eo
    obtain ⟨a, vs, L1, rfl, ha, na, rs', rfl⟩ := r.ilst
    obtain ⟨L', rr⟩ := rs'.rev
    exact ⟨a, vs, rfl, SqL.of ha, fun p np => q _ _ _ (x1.trans (HE.fresh np)) (so1.ext0 (HE.fresh np)) (.lst upd_same (fun z => so1.tr _ z np) (rr.ext0 (HE.fresh np)))⟩
  | _ => cases eo
theorem pick_back (xs : Array Value) : ((List.range xs.size).filterMap fun (m : Nat) => xs[((xs.size : Int) - 1 + (m : Int) * (-1)).toNat]?) = xs.toList.reverse := by
  have e : ∀ m ∈ List.range xs.size, xs[((xs.size : Int) - 1 + (m : Int) * (-1)).toNat]? = some (xs.toList.reverse.getD m default) := fun m hm => by
    have hm' : m < xs.size := List.mem_range.mp hm
    have h1 : ((xs.size : Int) - 1 + (m : Int) * (-1)).toNat = xs.size - 1 - m := by omega
    have h2 : xs.size - 1 - m < xs.size := by omega
    rw [h1, List.getD_eq_getElem?_getD, List.getElem?_reverse (by simpa using hm'), Array.getElem?_eq_getElem h2]
    rw [Array.length_toList, Array.getElem?_toList, Array.getElem?_eq_getElem h2]
    rfl
  have e2 : (List.range xs.size).filterMap (fun (m : Nat) => xs[((xs.size : Int) - 1 + (m : Int) * (-1)).toNat]?) = (List.range xs.size).map fun m => xs.toList.reverse.getD m default := by
    have gen : ∀ l : List Nat, (∀ m ∈ l, xs[((xs.size : Int) - 1 + (m : Int) * (-1)).toNat]? = some (xs.toList.reverse.getD m default)) → l.filterMap (fun (m : Nat) => xs[((xs.size : Int) - 1 + (m : Int) * (-1)).toNat]?) = l.map fun m => xs.toList.reverse.getD m default := by
      intro l
      induction l with
      | nil => intro _; rfl
      | cons m l ih =>
        intro h
        rw [List.filterMap_cons, h m List.mem_cons_self, List.map_cons, ih fun k hk => h k (List.mem_cons_of_mem _ hk)]
    exact gen _ e
  rw [e2]
  refine List.ext_getElem (by simp) fun i h1 h2 => ?_
  have hi : i < xs.toList.reverse.length := h2
  simp only [List.getElem_map, List.getElem_range]
  rw [List.getD_eq_getElem?_getD, List.getElem?_eq_getElem hi]
  rfl
theorem tup_back {s : Shared} {prog : Program} {w : World} {A : Around} {E : Value → Shared → Prop} {t sl : Addr} {items : Array Value} {tk : Tok} {Q : Value → Shared → Prop} (ht : IsTup s.heap t items) (hs : s.heap.IsSliceOf sl .none .none (.int (-1) tk))
    (h : Q (.ref s.heap.objs.size) { s with heap := s.heap.push { cls := .type "tuple", data := .seq items.toList.reverse.toArray } }) (hsz : items.size ≤ sizeLine) : wpAny (model prog w) A (getItem (.ref t) (.ref sl)) Q E s := by
  have hrv : sizeOk (.seq items.toList.reverse.toArray) := by
    show items.toList.reverse.toArray.size ≤ sizeLine
    rw [List.size_toArray, List.length_reverse, Array.length_toList]
    exact hsz
  obtain ⟨os, hos, hcs, hds⟩ := id hs
  have hTs : s.TypeIs (.ref sl) "slice" := ⟨os, hos, hcs⟩
  unfold getItem
  try with_reducible refine wpAny_holding ?_
  first | refine wpAny_bind (wpAny_pure ?_) | skip
  refine wpAny_bind (wpAny_sequenceKey ht.typeIs (by decide) (wpAny_bind (wpAny_callSpecial?_slot (name := Str.ofString "__getitem__") ht.typeIs PyProof.Rows.slot_tuple_getitem (wpAny_call_entry PyProof.Rows.slot_tuple_getitem ht.typeIs entry_tuple_getitem ?_ (args_tuple_getitem _ _)))))
  show wpAny _ _ (Builtin.Tuple.tupleItemsOf (.ref t) >>= _) _ _ s
  refine wpAny_bind (tupleItemsOf_ ht (wpAny_bind (wpAny_typeOf hTs ?_)))
  rw [if_pos (by decide)]
  have app : ∀ {Q' : Int × Int × Nat → Shared → Prop} {A' : Around} {E' : Value → Shared → Prop}, Q' ((items.size : Int) - 1, -1, items.size) s → wpAny (model prog w) A' (Builtin.Slice.sliceApplied (.ref sl) (pure (items.size : Int))) Q' E' s := fun {Q' A' E'} hq => by
    unfold Builtin.Slice.sliceApplied Builtin.Slice.sliceFields
    refine wpAny_bind (wpAny_bind (wpAny_field hos hds (x := .none) rfl (wpAny_bind (wpAny_field hos hds (x := .none) rfl (wpAny_bind (wpAny_field hos hds (x := .int (-1) tk) rfl (wpAny_pure ?_)))))))
    refine wpAny_bind (slicePart_int ?_)
    show wpAny _ _ (if ((-1 : Int) == 0) = true then _ else _) _ _ s
    rw [if_neg (by decide)]
    refine wpAny_bind (slicePart_none (wpAny_bind (slicePart_none (wpAny_bind (wpAny_pure ?_)))))
    have e1 : Builtin.Slice.sliceAdjust none none (-1) (items.size : Int) = ((items.size : Int) - 1, -1) := rfl
    have e2 : Builtin.Slice.slicePlaces ((items.size : Int) - 1) (-1) (-1) = items.size := by
      unfold Builtin.Slice.slicePlaces
      rw [if_neg (by decide)]
      by_cases hz : (items.size : Int) - 1 > -1
      · rw [if_pos hz]
        have : ((items.size : Int) - 1 - -1 - 1) / (- -1) + 1 = items.size := by
          rw [show (- -1 : Int) = 1 by decide, Int.ediv_one]; omega
        rw [this]; rfl
      · rw [if_neg hz]; omega
    show wpAny _ _ (match Builtin.Slice.sliceAdjust none none (-1) (items.size : Int) with | (lo, hi) => pure (lo, (-1 : Int), Builtin.Slice.slicePlaces lo hi (-1))) _ _ s
    rw [e1]
    show wpAny _ _ (pure ((items.size : Int) - 1, (-1 : Int), Builtin.Slice.slicePlaces ((items.size : Int) - 1) (-1) (-1))) _ _ s
    rw [e2]
    exact wpAny_pure hq
  refine wpAny_bind (app ?_)
  show wpAny _ _ (if ((items.size : Int) - 1 == 0 && (-1 : Int) == 1 && items.size == items.size) = true then _ else _) _ _ s
  rw [if_neg (by rw [show ((-1 : Int) == 1) = false from rfl, Bool.and_false, Bool.false_and]; exact Bool.false_ne_true), pick_back]
  first
    | exact wpAny_bind (m := Builtin.Tuple.tupleExact _) (wpAny_newObj_type (wpAny_pure ⟨_, rfl, wpAny_pure h⟩) hrv)
    | exact wpAny_bind (m := Builtin.Tuple.tupleExact _) (wpAny_newObj_type (wpAny_bind (wpAny_pure (wpAny_pure ⟨_, rfl, wpAny_pure h⟩))) hrv)
    | exact wpAny_bind (wpAny_bind (m := Builtin.Tuple.tupleExact _) (wpAny_newObj_type (wpAny_pure (wpAny_pure ⟨_, rfl, wpAny_pure h⟩)) hrv))
    | exact wpAny_bind (wpAny_bind (m := Builtin.Tuple.tupleExact _) (wpAny_newObj_type (wpAny_pure ⟨_, rfl, wpAny_pure h⟩) hrv))
def tRevT (K : PySem.W.Frag) (te : TE) : TE := fun σ H Q => te σ H fun x H1 => ∃ a xs, x = .ref a ∧ SqT K H1 a xs ∧ ∀ p, H1 p = none → Q (.ref p) (upd H1 p (.tup xs.reverse))
theorem pe_revT {te : TE} {k : Nat} {p1 p2 p3 : Pos} (he : PE X e te) : PE X (.Subscript e (.Slice none none (some (.UnaryOp .USub (.Constant (.int 1) k p1) p2)) p3) pos) (tRevT X.K te) := by
  refine ⟨fun pins s σ H Q I h => (Subscript_ (thn (he.run pins s σ H _ I h) fun v s1 ⟨x, H1, I1, r1, q1⟩ => ?_))⟩
  obtain ⟨a, xs, ex, hx, q⟩ := q1
  subst ex
  cases r1
  have hst : PO X (some (.UnaryOp .USub (.Constant (.int 1) k p1) p2)) (tPart (tUn (rU fun i => .int (-i)) (tC (.int 1)))) := (po_some (pe_un un_neg pe_int))
  refine wpAny_Slice (thn (po_none.run pins s1 σ H1 (fun o G => o = none ∧ G = H1) I1 ⟨rfl, rfl⟩) fun vl s2 ⟨l, H2, I2, pl, el, e2⟩ => ?_)
  subst el e2
  refine thn (po_none.run pins s2 σ H2 (fun o G => o = none ∧ G = H2) I2 ⟨rfl, rfl⟩) fun vu s3 ⟨u, H3, I3, pu, eu, e3⟩ => ?_
  subst eu e3
  refine thn (hst.run pins s3 σ H3 (fun o G => o = some (-1) ∧ G = H3) I3 ⟨1, rfl, -1, rfl, rfl, rfl⟩) fun vs s4 ⟨o, H4, I4, ps, eo, e4⟩ => ?_
  subst eo e4
  have I5 : Inv X pins σ H4 { s4 with heap := s4.heap.push { cls := .type "slice", data := .fields #[vl, vu, vs] } } := I4.kept (t' := s4.toks) (fun b ob q => Heap.get?_push_of_some _ q)
  obtain ⟨its, r, ht, hz⟩ := I5.tuple hx
  have hlen := r.length
  show wpAny (model X.prog X.w) X.A (subscriptTail e (.Slice none none (some (.UnaryOp .USub (.Constant (.int 1) k p1) p2)) p3) (.ref a) (.ref s4.heap.objs.size)) (EP X pins σ Q) X.xe { s4 with heap := s4.heap.push { cls := .type "slice", data := .fields #[vl, vu, vs] } }
  cases pl
  cases pu
  cases ps with
  | int i t =>
    refine tail_any (ops := [.ref a, .ref s4.heap.objs.size]) ht.typeIs (PyProof.Rows.slot_tuple_getitem.lookup) ?_ (by with_unfolding_all rfl)
    refine tup_back ht (Heap.IsSliceOf.new _ .none .none (.int (-1) t)) ?_ (by rw [List.size_toArray]; omega)
    refine ⟨.ref _, _, I5.laid (t' := s4.toks) (o := .tup xs.reverse) (fun b ob q => Heap.get?_push_of_some _ q) (Nat.le_refl _) ?_, rfl, q _ (I5.hok.fresh (Nat.le_refl _))⟩
    exact ⟨by rw [List.length_reverse]; exact hz, _, r.reverse, ⟨_, Heap.get?_push_size _ rfl, rfl, 0, by simp⟩⟩
def eRevT (f : FE) : FE := e1 (fun d => match d with | .tup xs => some (.tup xs.reverse) | _ => none) f
theorem d_revT {k : Nat} {p1 p2 p3 : Pos} (he : DE X e f) : DE X (.Subscript e (.Slice none none (some (.UnaryOp .USub (.Constant (.int 1) k p1) p2)) p3) pos) (eRevT f) := (pe_revT he).imp fun σ H Q ⟨S, δ, st, d, st', rs, so, e, q⟩ => by
  obtain ⟨x, s1, ea, e3⟩ := bd_inv e
  obtain ⟨eo, es⟩ := of_inv e3
  clear e3
  subst es
  refine ⟨S, δ, st, x, _, rs, so, ea, fun v H1 L x1 so1 r => ?_⟩
  cases x with
  | tup xs =>
    cases eo
    obtain ⟨a, vs, rfl, ha, rs'⟩ := r.itup
    obtain ⟨L', rr⟩ := rs'.rev
    exact ⟨a, vs, rfl, (.inl ha), fun p np => q _ _ _ (x1.trans (HE.fresh np)) (so1.ext0 (HE.fresh np)) (.tup (.inl upd_same) (rr.ext0 (HE.fresh np)))⟩
  | _ => cases eo

/-! ### t.count(x) -/
theorem pys_plain : ∀ {ds : List D} {n : Nat}, (∀ x ∈ ds, dOk n x = true) → PyData.plainAll (pys ds) = true
  | [], _, _ => rfl
  | d :: ds, n, h => by
    rw [pys, PyData.plainAll, pys_plain (fun x hx => h x (List.mem_cons_of_mem _ hx)), PyData.plain_of_canLay0 _ (dOk_ok n d (h d List.mem_cons_self)).1]
    rfl
theorem pys_depth : ∀ {ds : List D} {n : Nat}, (∀ x ∈ ds, dOk n x = true) → PyData.depthAll (pys ds) ≤ n
  | [], _, _ => Nat.zero_le _
  | d :: ds, n, h => by
    have h1 := (dOk_ok n d (h d List.mem_cons_self)).2
    have h2 := pys_depth (fun x hx => h x (List.mem_cons_of_mem _ hx))
    rw [pys, PyData.depthAll]
    omega
theorem pys_count {x : D} : ∀ (ds : List D), (pys ds).countP (fun y => PyData.eqv y x.py) = ds.countP fun y => y.eqv x
  | [] => rfl
  | d :: ds => by
    rw [pys, List.countP_cons, List.countP_cons, pys_count ds]
    rfl
def mCount : D → D → Option D
  | .tupk ds, x => if (ds.all (dOk 8) && dOk 8 x) = true then some (.int ((ds.countP fun y => y.eqv x : Nat) : Int)) else none
  | _, _ => none
theorem pe_count {o : Expr} {te : TE} {t : TA} {apos cpos : Pos} (ho : PE X o te) (ha : PA X [e] t)
    (hbase : attributeBase o "count" X.env (eval o X.env) = eval o X.env := by rfl)
    (hfew : ((backTo cpos (starEach [e] X.env)).all (fun x => !x.1) && (backToKw cpos (keywordEach [] X.env)).all (fun x => x.1.isSome) && decide (([e] : List Expr).length + ([] : List Keyword).length + (if ([] : List Keyword).isEmpty then 0 else 1) < 30)) = true := by rfl)
    (hline : (apos.endLine == cpos.line) = true := by rfl) (hs : starEach [e] X.env = (false, eval e X.env) :: starEach [] X.env := by rfl) (hplain : (backTo cpos (starEach [] X.env)).any (·.1) = false := by rfl) (hu : X.A.units + 64 < cLine) :
    PE X (.Call (.Attribute o "count" apos) [e] [] cpos) (fun σ H Q => te σ H fun x H1 => ∃ p ob vs, x = .ref p ∧ H1 p = some (.frz ob (.tup vs)) ∧ ob.dict = none ∧ t σ H1 fun xs H2 => ∃ S ds b d v L', xs = [v] ∧ (∃ L vs', H2 p = some (.frz ob (.tup vs')) ∧ Rps S H2 vs' ds L) ∧ Rp S H2 v b L' ∧ mCount (.tupk ds) b = some d ∧ ∀ u, Rp S H2 u d [] → Q u H2) := by
  refine ⟨fun pins s σ H Q I h => (wpAny_Call_method_late hbase hfew hline rfl (thn (ho.run pins s σ H _ I h) fun v s1 ⟨x, H1, I1, r1, p, ob, vs, ex, hp, hd, q1⟩ => ?_))⟩
  subst ex
  obtain rfl : v = Value.ref p := r1
  obtain ⟨hob, _, its, rv, o', ho', hc, _⟩ := (show ObjOk X.prog X.w H1 s1.heap p (.frz ob (.tup vs)) from I1.hok p _ hp)
  rw [hob] at ho'
  cases ho'
  refine ⟨"tuple", "tuple.count", PySem.F.plainAttrs_tuple, PySem.F.slot_tuple_count, PySem.F.type_tuple_count, ⟨ob, hob, hc⟩, fun a ea => by cases ea; exact ⟨ob, hob, hd⟩, ?_⟩
  have hA := ha.run cpos pins s1 σ H1 _ I1 q1
  rw [hs] at hA ⊢
  refine Calls.callWith_builtin (by show (false || (backTo cpos (starEach [] X.env)).any (·.1)) = false; rw [hplain] <;> rfl) (Calls.evalArgs_plain (thn hA fun us s2 ⟨xs, H2, I2, r2, S, ds, b, d, v, L', ex, ⟨L, vs', hp2, rr⟩, rb, e, q⟩ => ?_))
  subst ex
  have e : (if (ds.all (dOk 8) && dOk 8 b) = true then some (D.int ((ds.countP fun y => y.eqv b : Nat) : Int)) else none) = some d := e
  by_cases hk : (ds.all (dOk 8) && dOk 8 b) = true
  · rw [if_pos hk] at e
    cases e
    rw [Bool.and_eq_true] at hk
    obtain ⟨h1, h2⟩ := hk
    have h1' := List.all_eq_true.mp h1
    obtain ⟨u, rfl, ru⟩ := vals1 r2
    have hq : SqT X.K H2 p vs' := .inl (.inr ⟨_, hp2⟩)
    obtain ⟨its2, rv2, ht, hz⟩ := I2.tuple hq
    obtain ⟨as, q1⟩ := Dp.readsAll (X := X) I2 (pys ds) vs' its2 (rr.dp 8 h1') rv2
    obtain ⟨bs, q2⟩ := Dp.reads (X := X) I2 b.py v u (rb.dp 8 h2) ru
    refine PySem.SeqAt.count_tuple_data (show s2.heap.IsTuple p its2.toArray from ht) (by simpa using q1) q2 (pys_plain h1') (PyData.plain_of_canLay0 _ (dOk_ok 8 b h2).1) ?_ ?_
    · have := pys_depth h1'
      omega
    · rw [pys_count]
      exact ⟨.int ((ds.countP fun y => y.eqv b : Nat) : Int), H2, I2.tok _, ⟨_, rfl⟩, q _ (.int _)⟩
  · rw [if_neg hk] at e; cases e
theorem d_count {o : Expr} {apos cpos : Pos} (hu : X.A.units + 64 < cLine) (ho : DE X o f) (he : DE X e g)
    (hbase : attributeBase o "count" X.env (eval o X.env) = eval o X.env := by rfl)
    (hfew : ((backTo cpos (starEach [e] X.env)).all (fun x => !x.1) && (backToKw cpos (keywordEach [] X.env)).all (fun x => x.1.isSome) && decide (([e] : List Expr).length + ([] : List Keyword).length + (if ([] : List Keyword).isEmpty then 0 else 1) < 30)) = true := by rfl)
    (hline : (apos.endLine == cpos.line) = true := by rfl) (hst : starEach [e] X.env = (false, eval e X.env) :: starEach [] X.env := by rfl) (hplain : (backTo cpos (starEach [] X.env)).any (·.1) = false := by rfl) :
    DE X (.Call (.Attribute o "count" apos) [e] [] cpos) (e2 mCount f g) := (pe_count ho (pa_cons he pa_nil hst) hbase hfew hline hst hplain hu).imp fun σ H Q ⟨S, δ, st, d, st', rs, so, e, q⟩ => by
  obtain ⟨x, s1, ea, e3⟩ := bd_inv e
  obtain ⟨y, s2, eb, e4⟩ := bd_inv e3
  obtain ⟨eo, es⟩ := of_inv e4
  clear e4 e3
  subst es
  refine ⟨S, δ, st, x, s1, rs, so, ea, fun v H1 L1 x1 so1 r1 => ?_⟩
  cases x with
  | tupk ds =>
    obtain ⟨p, ob, vs, rfl, hp, hd, rr⟩ := r1.itupk
    exact ⟨p, ob, vs, rfl, hp, hd, S, δ, s1, y, _, rs.extS x1, so1, eb, fun w H2 L2' x2 so2 r2 => ⟨S, ds, y, d, w, L2', rfl, ⟨_, vs, x2.fz _ _ _ hp, rr.extS x2⟩, r2, eo, fun u ru => q u H2 [] (x1.trans x2) so2 ru⟩⟩
  | _ => cases eo
/-- tuple(a list), its object known -/
def bTupk : List D → Option D
  | [.lst ds] => some (.tupk ds)
  | _ => none
theorem b_tupk : CallR X (.type "tuple") (rDs bTupk) := by
  intro pins s σ H xs us Q I r ⟨S, ds, d, La, hn, rs, e, q⟩
  match ds, e with
  | [.lst ds], e =>
    cases e
    obtain ⟨v, rfl, rv⟩ := rs.i1
    obtain ⟨a, vs, L1, rfl, ea, na, rs', rfl⟩ := rv.ilst
    obtain ⟨u, rfl, rx⟩ := vals1 r
    cases rx
    obtain ⟨its, r', pl, hz⟩ := I.list (SqL.of (K := X.K) ea)
    have hlen := r'.length
    refine call_tuple_list pl.isList (fun h' kp => ?_) (by simp only [List.size_toArray] <;> omega)
    have I1 : Inv X pins σ H { s with heap := h' } := I.kept (t' := s.toks) kp
    have np := I1.hok.fresh (Nat.le_refl h'.objs.size)
    have I2 : Inv X pins σ (upd H h'.objs.size (.frz { cls := .type "tuple", data := .seq its.toArray } (.tup vs))) { s with heap := h'.push { cls := .type "tuple", data := .seq its.toArray } } :=
      I1.laid (t' := s.toks) (fun b o e => Heap.get?_push_of_some _ e) (Nat.le_refl _) ⟨Heap.get?_push_size _ rfl, hz, its, r', IsTup.new _ _⟩
    exact ⟨.ref h'.objs.size, _, I2, rfl, q _ _ _ (HE.fresh np) (.tupk upd_same rfl (rs'.ext0 (HE.fresh np)))⟩

/-! ### a written dict of texts -/
theorem pairs_imp {kvs : List (Str × Str)} {σ : L2.St} {H : Hp} {R : List (V × V) → Hp → Prop} (h : R (kvs.map fun p => (V.str p.1, V.str p.2)) H) : tPairs (kvs.map fun p => (tC (.str p.1), tC (.str p.2))) σ H R := by
  induction kvs generalizing R with
  | nil => exact h
  | cons p kvs ih => exact ih (R := fun ps H3 => R ((V.str p.1, V.str p.2) :: ps) H3) h
theorem d_dct {keys : List (Option Expr)} {values : List Expr} (kvs : List (Str × Str)) (h : PPs X pos keys values (kvs.map fun p => (tC (.str p.1), tC (.str p.2)))) (hall : keys.all (·.isSome) = true := by rfl) (hl : keys.length = values.length := by rfl) (h0 : keys ≠ [] := by exact fun z => nomatch z)
    (h15 : keys.length ≤ 15 := by decide) (hk : kvs.length ≤ 15 := by decide) (hm : mergeK [] (kvs.map fun p => ((Sum.inr p.1 : Key), V.str p.2)) = kvs.map fun p => ((Sum.inr p.1 : Key), V.str p.2) := by decide +kernel) :
    DE X (.Dict keys values pos) (eC (.dct kvs)) := (pe_disp h hall hl h0 h15).imp fun σ H Q ⟨S, δ, st, d, st', rs, so, e, q⟩ => fun p np => pairs_imp (by
  obtain ⟨e1, e2⟩ := ret_inv e
  subst e1 e2
  refine ⟨upd_same, kvs.map fun p => ((Sum.inr p.1 : Key), V.str p.2), by simp [kV], by simpa using hk, ?_⟩
  rw [hm, upd_upd]
  exact q _ _ [] (HE.fresh np) (so.ext0 (HE.fresh np)) (.dct upd_same))
def dGet : D → D → Option D
  | .dct kvs, .str k => (kvs.lookup k).map .str
  | _, _ => none
theorem valV_map {k : Str} : ∀ (kvs : List (Str × Str)), valV (kvs.map fun p => ((Sum.inr p.1 : Key), V.str p.2)) (Sum.inr k) = (kvs.lookup k).map V.str
  | [] => rfl
  | (a, b) :: kvs => by
    have ih := valV_map (k := k) kvs
    unfold valV at ih ⊢
    rw [List.map_cons, List.find?_cons, List.lookup_cons]
    by_cases h : a = k
    · subst h
      simp
    · have h1 : decide ((Sum.inr a : Key) = Sum.inr k) = false := decide_eq_false (fun z => h (Sum.inr.inj z))
      have h2 : (k == a) = false := beq_eq_false_iff_ne.mpr (Ne.symm h)
      simp only [h1, h2]
      exact ih
theorem d_get {o : Expr} (hu : X.A.units + 1 < cLine) (ho : DE X o f) (he : DE X e g) (hs : NoSl e := by intro _ _; rfl) : DE X (.Subscript o e pos) (e2 dGet f g) := (pe_dget hu ho he hs).imp fun σ H Q ⟨S, δ, st, d, st', rs, so, e, q⟩ => by
  obtain ⟨x, s1, ea, e3⟩ := bd_inv e
  obtain ⟨y, s2, eb, e4⟩ := bd_inv e3
  obtain ⟨eo, es⟩ := of_inv e4
  clear e4 e3
  subst es
  refine ⟨S, δ, st, x, s1, rs, so, ea, fun v H1 L1 x1 so1 r1 => ⟨S, δ, s1, y, _, rs.extS x1, so1, eb, fun w H2 L2' x2 so2 r2 => ?_⟩⟩
  have r1' := r1.extS x2
  cases x with
  | dct kvs =>
    cases y with
    | str k =>
      obtain ⟨t, e5, e6⟩ := Option.map_eq_some_iff.mp (show (kvs.lookup k).map D.str = some d from eo)
      subst e6
      obtain ⟨rfl, rfl⟩ := r2.istr
      cases r1' with
      | dct hp =>
        refine ⟨_, .str t, rfl, ?_, q _ H2 [] (x1.trans x2) so2 (.str t)⟩
        have := DGet.k (k := Sum.inr k) hp
        rw [valV_map, e5] at this
        exact this
    | _ => cases eo
  | _ => cases eo
end
end DL
set_option Elab.async false
set_option linter.all false
set_option maxRecDepth 100000
set_option maxHeartbeats 4000000
/-! DL7: a list moved into a list, ranges as lists and tuples, stores into lists of lists. -/
namespace DL
open PySem PySem.Spec PyProof.Rows L2

def dIAdd : D → D → Option D := fun a b => match a, b with | .int i, .int j => some (.int (i + j)) | _, _ => none
def eRepF (f g : FE) : FE := fun δ => (f δ).bd fun x => (g δ).bd fun y => M.of (match x, y with | .lst xs, .int k => dMul (.lst xs) (.int k) | _, _ => none)

section
variable {S : Sr} {W : Addr → Prop} {H0 H H' : Hp} {σ : L2.St} {δ : Ev}
/-- slot j is forgotten: what it owned may go elsewhere -/
theorem RS.drop (r : RS S W H0 H σ δ) (j : Nat) : RS S W H0 H σ (δ.set j .no) where
  len := by simp [r.len]
  he := r.he
  wA := r.wA
  wn := r.wn
  sl := by
    obtain ⟨Λ, h, h2⟩ := r.sl
    have g : ∀ i d, gt (δ.set j .no) i = some d → i ≠ j ∧ gt δ i = some d := fun i d e => by
      rw [gt_set] at e
      by_cases hij : j = i
      · subst hij
        rw [if_pos rfl] at e
        split at e <;> cases e
      · rw [if_neg hij] at e; exact ⟨Ne.symm hij, e⟩
    refine ⟨Λ, fun i d e => h i d (g i d e).2, fun i d e => ?_⟩
    rcases set_ow e with ⟨_, z⟩ | ⟨hj, e⟩
    · cases z
    · obtain ⟨n, w⟩ := h2 i d e
      exact ⟨n, fun a ha => ⟨(w a ha).1, fun k e' hk hg => (w a ha).2 k e' hk (g k e' hg).2⟩⟩
/-- the owned list at slot i takes in what no slot owns -/
theorem RS.wrM {i : Nat} {ds ds' : List D} {a : Addr} {vs vs' : List V} {L L' : List Addr} (r : RS S W H0 H σ δ) (hi : δ[i]? = some (.ow (.lst ds))) (ha : σ[i]? = some (some (.ref a))) (hH : H a = some (.lst vs)) (hr : Rps S H vs ds L)
    (hn : Rps S (upd H a (.lst vs')) vs' ds' L') (nd : L'.Nodup) (hn' : a ∉ L') (hw : ∀ b ∈ L', W b) (fr : ∀ b ∈ L', b ∈ L ∨ ∀ k e u L2, k ≠ i → gt δ k = some e → σ[k]? = some (some u) → Rp S H u e L2 → b ∉ L2) :
    RS S W H0 (upd H a (.lst vs')) σ (δ.set i (.ow (.lst ds'))) := by
  obtain ⟨Λ, h, h2⟩ := r.sl
  obtain ⟨v, e1, rp⟩ := h i _ (gt_ow hi)
  rw [ha] at e1
  cases e1
  obtain ⟨a', vs1, L1, e2, h3, nh, rs1, eL⟩ := rp.ilst
  cases e2
  rw [hH] at h3
  cases h3
  have eL1 := rs1.uniq hr
  subst eL1
  obtain ⟨ndi, hwi⟩ := h2 i _ hi
  rw [eL] at ndi hwi
  have wa : W a := (hwi a List.mem_cons_self).1
  have ilt : i < δ.length := gt_lt (gt_ow hi)
  have apart : ∀ b ∈ a :: L', ∀ k e, k ≠ i → gt δ k = some e → b ∉ Λ k := fun b hb k e hk hg => by
    rcases List.mem_cons.mp hb with z | hb
    · exact (hwi b (z ▸ List.mem_cons_self)).2 k e hk hg
    · rcases fr b hb with z | z
      · exact (hwi b (List.mem_cons_of_mem _ z)).2 k e hk hg
      · obtain ⟨u, p, q⟩ := h k e hg
        exact z k e u _ hk hg p q
  have inW : ∀ b ∈ a :: L', W b := fun b hb => (List.mem_cons.mp hb).elim (fun z => z ▸ wa) (hw b)
  refine ⟨by simp [r.len], r.he.trans (HE.write hH wa), r.wA, r.wn, upN Λ i (a :: L'), fun j d e => ?_, fun j d e => ?_⟩
  · rw [gt_set] at e
    by_cases hij : i = j
    · subst hij
      rw [if_pos rfl, if_pos ilt] at e
      cases e
      rw [upN_same]
      exact ⟨_, ha, .lst upd_same nh hn⟩
    · rw [if_neg hij] at e
      rw [upN_ne (Ne.symm hij)]
      obtain ⟨w, e1, e2⟩ := h j d e
      exact ⟨w, e1, e2.ext (HE.writeN hH) fun b hb z => (hwi a List.mem_cons_self).2 j d (Ne.symm hij) e (z ▸ hb)⟩
  · rcases set_ow e with ⟨rfl, es⟩ | ⟨hj, e⟩
    · rw [upN_same]
      refine ⟨List.nodup_cons.mpr ⟨hn', nd⟩, fun b hb => ⟨inW b hb, fun k e' hk hg => ?_⟩⟩
      rw [upN_ne hk]
      rw [gt_set, if_neg (Ne.symm hk)] at hg
      exact apart b hb k e' hk hg
    · rw [upN_ne hj]
      obtain ⟨n, w⟩ := h2 j d e
      refine ⟨n, fun b hb => ⟨(w b hb).1, fun k e' hk hg => ?_⟩⟩
      by_cases hki : k = i
      · rw [hki, upN_same]
        exact fun z => apart b z j d hj (gt_ow e) hb
      · rw [upN_ne hki]
        rw [gt_set, if_neg (Ne.symm hki)] at hg
        exact (w b hb).2 k e' hk hg
end

/-- x.append(y), y's own list goes into x -/
def sAppM (i j : Nat) : FS := fun δ => match δ[i]?, δ[j]? with
  | some (.ow (.lst ds)), some (.ow (.lst es)) => if ds.length < 1000000 then M.ret (.nx ((δ.set j .no).set i (.ow (.lst (ds ++ [.lst es]))))) else M.no
  | _, _ => M.no
/-- x.append(e), e a new list -/
def sAppF (i : Nat) (f : FE) : FS := fun δ => match δ[i]? with
  | some (.ow (.lst ds)) => (f δ).bd fun d => if ds.length < 1000000 then M.ret (.nx (δ.set i (.ow (.lst (ds ++ [d]))))) else M.no
  | _ => M.no
section
variable {X : Cx} {pos : Pos}
theorem ds_appM {i j : Nat} {x y : Str} {apos cpos p py : Pos} (hi : X.N[i]? = some x) (hv : Vis X.env.scope x) (hj : X.N[j]? = some y) (hvy : Vis X.env.scope y) (hij : i ≠ j)
    (hs : swapsWith (.Call (.Attribute (.Name x p) "append" apos) [.Name y py] [] cpos) none pos.line X.env = pure false := by rfl)
    (hbase : attributeBase (.Name x p) "append" X.env (eval (.Name x p) X.env) = eval (.Name x p) X.env := by rfl)
    (hfew : ((backTo cpos (starEach [.Name y py] X.env)).all (fun x => !x.1) && (backToKw cpos (keywordEach [] X.env)).all (fun x => x.1.isSome) && decide (([.Name y py] : List Expr).length + ([] : List Keyword).length + (if ([] : List Keyword).isEmpty then 0 else 1) < 30)) = true := by rfl)
    (hline : (apos.endLine == cpos.line) = true := by rfl) (hst : starEach [.Name y py] X.env = (false, eval (.Name y py) X.env) :: starEach [] X.env := by rfl) (hplain : (backTo cpos (starEach [] X.env)).any (·.1) = false := by rfl)
    (hd : (x == ("__debug__" : Str)) = false := by decide) (hcd : (x == ("__classdict__" : Str)) = false := by decide) (hdy : (y == ("__debug__" : Str)) = false := by decide) (hcdy : (y == ("__classdict__" : Str)) = false := by decide) :
    DS X (.Expr (.Call (.Attribute (.Name x p) "append" apos) [.Name y py] [] cpos) pos) (sAppM i j) :=
  (ps_expr (pe_bm PySem.F.plainAttrs_list PySem.F.slot_list_append PySem.F.type_list_append mt_append (pe_var hi hv hd hcd) (pa_cons (pe_var hj hvy hdy hcdy) pa_nil hst) hbase hfew hline hst hplain) hs).imp fun σ H Q ⟨S, W, H0, δ, st, o, st', rs, so, e, q⟩ => by
  unfold sAppM at e
  cases ei : δ[i]? with
  | none => rw [ei] at e; cases e
  | some s1 =>
    cases ej : δ[j]? with
    | none => rw [ei, ej] at e; cases s1 <;> first | cases e | (rename_i d; cases d <;> cases e)
    | some s2 =>
      rw [ei, ej] at e
      cases s1 with
      | ow d1 =>
        cases d1 with
        | lst ds =>
          cases s2 with
          | ow d2 =>
            cases d2 with
            | lst es =>
              have e : (if ds.length < 1000000 then M.ret (.nx ((δ.set j .no).set i (.ow (.lst (ds ++ [.lst es]))))) else M.no) st = some (o, st') := e
              by_cases hl : ds.length < 1000000
              · rw [if_pos hl] at e
                obtain ⟨e1, e2⟩ := ret_inv e
                subst e1 e2
                obtain ⟨a, vs, L, hσ, hH, nh, rr, nd⟩ := rs.own ei
                obtain ⟨b, ws, M', hσ2, hH2, nh2, rr2, nd2⟩ := rs.own ej
                refine ⟨.ref a, hσ, .inl ⟨rfl, _, SqL.of hH⟩, .ref b, hσ2, a, vs, .ref b, rfl, rfl, hH, Nat.lt_of_lt_of_le (by rw [rr.len]; exact hl) (size_ok (Nat.le_refl _)), ?_⟩
                obtain ⟨Λ, h, h2⟩ := id rs.sl
                obtain ⟨v1, e1, rp1⟩ := h i _ (gt_ow ei)
                rw [hσ] at e1
                cases e1
                obtain ⟨v2, e2, rp2⟩ := h j _ (gt_ow ej)
                rw [hσ2] at e2
                cases e2
                have u1 := rp1.uniq (.lst hH nh rr)
                have u2 := rp2.uniq (.lst hH2 nh2 rr2)
                have ap : ∀ c ∈ b :: M', c ∉ a :: L := fun c hc => by
                  have := ((h2 j _ ej).2 c (u2 ▸ hc)).2 i _ hij (gt_ow ei)
                  rwa [u1] at this
                have nda := List.nodup_cons.mp nd
                have rd := rs.drop j
                have ei' : (δ.set j .no)[i]? = some (.ow (.lst ds)) := by rw [List.getElem?_set_ne (Ne.symm hij)]; exact ei
                refine q σ _ (rd.wrM (L' := L ++ (b :: M')) ei' hσ hH rr ?_ ?_ ?_ ?_ ?_) (so.wr nh)
                · exact (rr.append (Rps.one (.lst hH2 nh2 rr2))).ext (HE.writeN hH) fun c hc z => by
                    rcases List.mem_append.mp hc with hc | hc
                    · exact nda.1 (z ▸ hc)
                    · exact ap c hc (z ▸ List.mem_cons_self)
                · exact List.nodup_append.mpr ⟨nda.2, nd2, fun c hc c' hc' z => ap c' hc' (z ▸ List.mem_cons_of_mem _ hc)⟩
                · intro hc
                  rcases List.mem_append.mp hc with hc | hc
                  · exact nda.1 hc
                  · exact ap a hc List.mem_cons_self
                · intro c hc
                  rcases List.mem_append.mp hc with hc | hc
                  · exact ((h2 i _ ei).2 c (u1 ▸ List.mem_cons_of_mem _ hc)).1
                  · exact ((h2 j _ ej).2 c (u2 ▸ hc)).1
                · intro c hc
                  rcases List.mem_append.mp hc with hc | hc
                  · exact .inl hc
                  · refine .inr fun k e' u L2 hk hg hu hr => ?_
                    rw [gt_set] at hg
                    by_cases hjk : j = k
                    · subst hjk
                      rw [if_pos rfl] at hg
                      split at hg <;> cases hg
                    · rw [if_neg hjk] at hg
                      obtain ⟨u', p1, p2⟩ := h k e' hg
                      rw [hu] at p1
                      cases p1
                      have := p2.uniq hr
                      subst this
                      exact ((h2 j _ ej).2 c (u2 ▸ hc)).2 k e' (Ne.symm hjk) hg
              · rw [if_neg hl] at e; cases e
            | _ => cases e
          | _ => cases e
        | _ => cases e
      | _ => cases e
theorem ds_appF {i : Nat} {x : Str} {e : Expr} {f : FE} {apos cpos p : Pos} (hi : X.N[i]? = some x) (hv : Vis X.env.scope x) (he : DF X e f)
    (hs : swapsWith (.Call (.Attribute (.Name x p) "append" apos) [e] [] cpos) none pos.line X.env = pure false := by rfl)
    (hbase : attributeBase (.Name x p) "append" X.env (eval (.Name x p) X.env) = eval (.Name x p) X.env := by rfl)
    (hfew : ((backTo cpos (starEach [e] X.env)).all (fun x => !x.1) && (backToKw cpos (keywordEach [] X.env)).all (fun x => x.1.isSome) && decide (([e] : List Expr).length + ([] : List Keyword).length + (if ([] : List Keyword).isEmpty then 0 else 1) < 30)) = true := by rfl)
    (hline : (apos.endLine == cpos.line) = true := by rfl) (hst : starEach [e] X.env = (false, eval e X.env) :: starEach [] X.env := by rfl) (hplain : (backTo cpos (starEach [] X.env)).any (·.1) = false := by rfl)
    (hd : (x == ("__debug__" : Str)) = false := by decide) (hcd : (x == ("__classdict__" : Str)) = false := by decide) :
    DS X (.Expr (.Call (.Attribute (.Name x p) "append" apos) [e] [] cpos) pos) (sAppF i f) :=
  (ps_expr (pe_bm PySem.F.plainAttrs_list PySem.F.slot_list_append PySem.F.type_list_append mt_append (pe_var hi hv hd hcd) (pa_cons he pa_nil hst) hbase hfew hline hst hplain) hs).imp fun σ H Q ⟨S, W, H0, δ, st, o, st', rs, so, e, q⟩ => by
  unfold sAppF at e
  cases ei : δ[i]? with
  | none => rw [ei] at e; cases e
  | some sl =>
    rw [ei] at e
    cases sl with
    | ow d =>
      cases d with
      | lst ds =>
        obtain ⟨d, s1, ea, e⟩ := bd_inv (show ((f δ).bd fun d => if ds.length < 1000000 then M.ret (.nx (δ.set i (.ow (.lst (ds ++ [d]))))) else M.no) st = some (o, st') from e)
        by_cases hl : ds.length < 1000000
        · rw [if_pos hl] at e
          obtain ⟨e1, e2⟩ := ret_inv e
          subst e1 e2
          obtain ⟨a, vs, L, hσ, hH, nh, rr, nd⟩ := rs.own ei
          refine ⟨.ref a, hσ, .inl ⟨rfl, _, SqL.of hH⟩, S, δ, st, d, _, rs.rs, so, ea, fun v H1 L1 x1 so1 r1 n1 f1 => ?_⟩
          have hH1 : H1 a = some (.lst vs) := x1.lst _ _ (fun z => nh (z ▸ S.hA)) hH
          refine ⟨a, vs, v, rfl, rfl, hH1, Nat.lt_of_lt_of_le (by rw [rr.len]; exact hl) (size_ok (Nat.le_refl _)), ?_⟩
          have rr1 := rr.extS x1
          have nda := List.nodup_cons.mp nd
          obtain ⟨Λ, h, h2⟩ := id rs.sl
          obtain ⟨v1, e1, rp1⟩ := h i _ (gt_ow ei)
          rw [hσ] at e1
          cases e1
          have u1 := rp1.uniq (.lst hH nh rr)
          have ap : ∀ c ∈ L1, c ∉ a :: L := fun c hc hc' => by
            obtain ⟨_, xs, w⟩ := (Rp.lst hH nh rr).ne c hc'
            rw [f1 c hc] at w
            cases w
          refine q σ _ ((rs.ext x1).wrM (L' := L ++ L1) ei hσ hH1 rr1 ?_ ?_ ?_ ?_ ?_) (so1.wr nh)
          · exact (rr1.append (Rps.one r1)).ext (HE.writeN hH1) fun c hc z => by
              rcases List.mem_append.mp hc with hc | hc
              · exact nda.1 (z ▸ hc)
              · exact ap c hc (z ▸ List.mem_cons_self)
          · exact List.nodup_append.mpr ⟨nda.2, n1, fun c hc c' hc' z => ap c' hc' (z ▸ List.mem_cons_of_mem _ hc)⟩
          · intro hc
            rcases List.mem_append.mp hc with hc | hc
            · exact nda.1 hc
            · exact ap a hc List.mem_cons_self
          · intro c hc
            rcases List.mem_append.mp hc with hc | hc
            · exact ((h2 i _ ei).2 c (u1 ▸ List.mem_cons_of_mem _ hc)).1
            · exact rs.wn c (rs.he.new c (f1 c hc))
          · intro c hc
            rcases List.mem_append.mp hc with hc | hc
            · exact .inl hc
            · refine .inr fun k e' u L2 hk hg hu hr hcL => ?_
              obtain ⟨u', p1, p2⟩ := h k e' hg
              rw [hu] at p1
              cases p1
              have := (p2.extS x1).uniq hr
              subst this
              obtain ⟨_, xs, w⟩ := p2.ne c hcL
              rw [f1 c hc] at w
              cases w
        · rw [if_neg hl] at e; cases e
      | _ => cases e
    | _ => cases e

/-! ### list(range(n)), tuple(range(n)) -/
theorem rgV_rngD {S : Sr} {H : Hp} : ∀ (n : Nat) (lo : Int), Rps S H ((List.range n).map fun i => V.int (lo + (i : Nat))) (rngD lo n) []
  | 0, _ => .nil
  | n + 1, lo => by
    rw [List.range_succ_eq_map, List.map_cons, List.map_map]
    refine Rps.cons (L := []) (L' := []) (by simpa using Rp.int (S := S) (H := H) lo) ?_
    have := rgV_rngD (S := S) (H := H) n (lo + 1)
    have e : ((fun i => V.int (lo + (i : Nat))) ∘ Nat.succ) = fun i : Nat => V.int (lo + 1 + (i : Nat)) := by
      funext i
      show V.int (lo + ((i + 1 : Nat) : Int)) = _
      congr 1
      omega
    rw [e]
    exact this
def eLstR1 (f : FE) : FE := e1 (fun d => match d with | .int j => if 0 ≤ j ∧ j.natAbs ≤ 1000000 then some (.lst (rngD 0 j.toNat)) else none | _ => none) f
def eTupR1 (f : FE) : FE := e1 (fun d => match d with | .int j => if 0 ≤ j ∧ j.natAbs ≤ 1000000 then some (.tup (rngD 0 j.toNat)) else none | _ => none) f
theorem df_lstR1 {a : Expr} {f : FE} {p p2 pos2 : Pos} (hc : X.calm = true) (hg : Gl X "list") (hm : X.mg "list" = none) (hg2 : Gl X "range") (hm2 : X.mg "range" = none) (ha : DE X a f)
    (na : starEach [a] X.env = (false, eval a X.env) :: starEach [] X.env := by rfl) (na2 : starEach [.Call (.Name "range" p2) [a] [] pos2] X.env = (false, eval (.Call (.Name "range" p2) [a] [] pos2) X.env) :: starEach [] X.env := by rfl) :
    DF X (.Call (.Name "list" p) [.Call (.Name "range" p2) [a] [] pos2] [] pos) (eLstR1 f) := (pe_listRg hc hg hm (prg_1 hg2 hm2 ha na) na2).imp fun σ H Q ⟨S, δ, st, d, st', rs, so, e, q⟩ => by
  obtain ⟨x, s1, ea, e3⟩ := bd_inv e
  obtain ⟨eo, es⟩ := of_inv e3
  clear e3
  subst es
  refine ⟨S, δ, st, x, _, rs, so, ea, fun v H1 L x1 so1 r => ?_⟩
  cases x with
  | int j =>
    have eo : (if 0 ≤ j ∧ j.natAbs ≤ 1000000 then some (D.lst (rngD 0 j.toNat)) else none) = some d := eo
    by_cases h : 0 ≤ j ∧ j.natAbs ≤ 1000000
    · rw [if_pos h] at eo
      cases eo
      obtain ⟨rfl, rfl⟩ := r.iint
      refine ⟨j, rfl, RgOk.of_le (by omega) (by omega) (by omega) (by omega), fun p np => ?_⟩
      have e2 : rgV 0 j = (List.range j.toNat).map fun i => V.int ((0 : Int) + (i : Nat)) := by unfold rgV; rw [Int.sub_zero]
      rw [e2]
      exact q _ _ [p] (x1.trans (HE.fresh np)) (so1.ext0 (HE.fresh np)) (.lst upd_same (fun z => so1.tr _ z np) (rgV_rngD _ _)) (by simp) fun b hb => by
        have : b = p := by simpa using hb
        exact this ▸ x1.new _ np
    · rw [if_neg h] at eo; cases eo
  | _ => cases eo
theorem d_tupR1 {a : Expr} {f : FE} {p p2 pos2 : Pos} (hc : X.calm = true) (hg : Gl X "tuple") (hm : X.mg "tuple" = none) (hg2 : Gl X "range") (hm2 : X.mg "range" = none) (ha : DE X a f)
    (na : starEach [a] X.env = (false, eval a X.env) :: starEach [] X.env := by rfl) (na2 : starEach [.Call (.Name "range" p2) [a] [] pos2] X.env = (false, eval (.Call (.Name "range" p2) [a] [] pos2) X.env) :: starEach [] X.env := by rfl) :
    DE X (.Call (.Name "tuple" p) [.Call (.Name "range" p2) [a] [] pos2] [] pos) (eTupR1 f) := (pe_tupRg hc hg hm (prg_1 hg2 hm2 ha na) na2).imp fun σ H Q ⟨S, δ, st, d, st', rs, so, e, q⟩ => by
  obtain ⟨x, s1, ea, e3⟩ := bd_inv e
  obtain ⟨eo, es⟩ := of_inv e3
  clear e3
  subst es
  refine ⟨S, δ, st, x, _, rs, so, ea, fun v H1 L x1 so1 r => ?_⟩
  cases x with
  | int j =>
    have eo : (if 0 ≤ j ∧ j.natAbs ≤ 1000000 then some (D.tup (rngD 0 j.toNat)) else none) = some d := eo
    by_cases h : 0 ≤ j ∧ j.natAbs ≤ 1000000
    · rw [if_pos h] at eo
      cases eo
      obtain ⟨rfl, rfl⟩ := r.iint
      refine ⟨j, rfl, RgOk.of_le (by omega) (by omega) (by omega) (by omega), fun p np => ?_⟩
      have e2 : rgV 0 j = (List.range j.toNat).map fun i => V.int ((0 : Int) + (i : Nat)) := by unfold rgV; rw [Int.sub_zero]
      rw [e2]
      exact q _ _ [] (x1.trans (HE.fresh np)) (so1.ext0 (HE.fresh np)) (.tup (.inl upd_same) (rgV_rngD _ _))
    · rw [if_neg h] at eo; cases eo
  | _ => cases eo
theorem d_lstR1 {a : Expr} {f : FE} {p p2 pos2 : Pos} (hc : X.calm = true) (hg : Gl X "list") (hm : X.mg "list" = none) (hg2 : Gl X "range") (hm2 : X.mg "range" = none) (ha : DE X a f)
    (na : starEach [a] X.env = (false, eval a X.env) :: starEach [] X.env := by rfl) (na2 : starEach [.Call (.Name "range" p2) [a] [] pos2] X.env = (false, eval (.Call (.Name "range" p2) [a] [] pos2) X.env) :: starEach [] X.env := by rfl) :
    DE X (.Call (.Name "list" p) [.Call (.Name "range" p2) [a] [] pos2] [] pos) (eLstR1 f) := df_de (df_lstR1 hc hg hm hg2 hm2 ha na na2)
end
end DL
set_option Elab.async false
set_option linter.all false
set_option maxRecDepth 100000
set_option maxHeartbeats 4000000
/-! DTake: the laws' source of draws: what _law_take and _law_begin do, for any text that has them. -/
namespace DL
open PySem PySem.Spec PyProof.Rows L2

/-- a draw below m -/
def take (s : Src) (m : Int) : Int × Src :=
  if s.big = 0 ∧ s.pos < s.script.length then
    let c : Int := ((s.script.getD s.pos 0).natAbs : Nat)
    if c < 10 ^ 18 then (c % m, { s with pos := s.pos + 1, big := 0 })
    else if 0 < c then (c % m, { s with pos := s.pos + 1, big := c / m })
    else (0, s)
  else if 0 < s.big then (s.big % m, { s with big := s.big / m })
  else ((s.seed * 69621 + 7) % 2147483647 / 5 % m, { s with seed := (s.seed * 69621 + 7) % 2147483647 })
def F__law_take : List D → M D := fun ds s => match ds with
  | [.src, .int m] => if 0 < m ∧ m ≤ 1000000 then some (.int (take s m).1, (take s m).2) else none
  | _ => none
theorem draw_eq {s : Src} {m : Int} (h : 0 < m ∧ m ≤ 1000000) : F__law_take [.src, .int m] s = some (.int (take s m).1, (take s m).2) := by
  show (if 0 < m ∧ m ≤ 1000000 then _ else _) = _
  rw [if_pos h]
theorem take_lo (s : Src) {m : Int} (h : 0 < m) : 0 ≤ (take s m).1 := by
  unfold take
  dsimp only
  split
  · split
    · exact Int.emod_nonneg _ (by omega)
    · split
      · exact Int.emod_nonneg _ (by omega)
      · exact Int.le_refl _
  · split
    · exact Int.emod_nonneg _ (by omega)
    · exact Int.emod_nonneg _ (by omega)
theorem take_hi (s : Src) {m : Int} (h : 0 < m) : (take s m).1 < m := by
  unfold take
  dsimp only
  split
  · split
    · exact Int.emod_lt_of_pos _ h
    · split
      · exact Int.emod_lt_of_pos _ h
      · exact h
  · split
    · exact Int.emod_lt_of_pos _ h
    · exact Int.emod_lt_of_pos _ h
/-- the list of the source -/
def lst4 (q : Addr) (s : Src) : HO := .lst [.ref q, .int s.pos, .int s.big, .int s.seed]

section
variable {X : Cx}
theorem src_sub {p : Addr} {xs : List V} {H : Hp} {k : Nat} {v : V} (h : xs[k]? = some v) : atI xs (k : Int) = some v := atI_nat h
/-- what stays of the rest when the source's list is written -/
theorem ext_src {S : Sr} {H : Hp} {xs ys : List V} (h : H S.dA = some (.lst xs)) : Ext S H (upd H S.dA (.lst ys)) := HE.write h rfl
theorem srcOk_upd {S : Sr} {H : Hp} {s s' : Src} (h : SrcOk S H s) (hs : s'.script = s.script) : SrcOk S (upd H S.dA (.lst [.ref S.q, .int s'.pos, .int s'.big, .int s'.seed])) s' :=
  ⟨h.ne, upd_same, by rw [upd_ne h.ne, hs]; exact h.cp, fun b hb => by
    by_cases e : b = S.dA
    · rw [e, upd_same]; exact fun z => nomatch z
    · rw [upd_ne e]; exact h.tr b hb⟩
end
section
variable (K : PySem.W.Frag)
abbrev tI4 (i : Int) : TE := tOp (rIxL K) (tVar 0) (tC (.int i))
abbrev cInt : List V → Hp → VK → Prop := fun xs H Q => (∃ i, xs = [.int i] ∧ Q (.int i) H) ∨ ∃ k, xs = [.bl k] ∧ Q (.int (if k then 1 else 0)) H
abbrev cLen : List V → Hp → VK → Prop := fun xs H Q => ∃ p ys, xs = [.ref p] ∧ (SqL K H p ys ∨ SqT K H p ys) ∧ Q (.int ys.length) H
abbrev cAbs : List V → Hp → VK → Prop := fun xs H Q => ∃ i, xs = [.int i] ∧ Q (.int (if i < 0 then -i else i)) H
/-- the reading of the draw's body -/
def tTake : TS :=
  tSeq (tIfS (tAnd (tTest (tOp rEq (tI4 K 2) (tC (.int 0)))) (tTest (tOp (rI0 fun i j => .bl (decide (i < j))) (tI4 K 1) (tCB (cLen K) (tCons (tI4 K 0) tNil)))))
      (tSeq (tAsg (tCB cAbs (tCons (tCB cInt (tCons (tOp (rIxL K) (tI4 K 0) (tI4 K 1)) tNil)) tNil)) (gSub (tVar 0) (tC (.int 2)) rSetL))
      (tSeq (tAsg (tOp (rI0 fun i j => .int (i + j)) (tI4 K 1) (tC (.int 1))) (gSub (tVar 0) (tC (.int 1)) rSetL))
        (tIfS (tTest (tOp (rI0 fun i j => .bl (decide (i < j))) (tI4 K 2) (tOp (rI CPow fun i j => .int (i ^ j.toNat)) (tC (.int 10)) (tC (.int 18)))))
          (tSeq (tAsg (tCB cInt (tCons (tI4 K 2) tNil)) (gName 2))
          (tSeq (tAsg (tC (.int 0)) (gSub (tVar 0) (tC (.int 2)) rSetL))
            (tRet (tOp (rI (fun _ j => 0 < j) fun i j => .int (i % j)) (tVar 2) (tVar 1)))))
          tNext))) tNext)
  (tSeq (tIfS (tTest (tOp (rI0 fun i j => .bl (decide (j < i))) (tI4 K 2) (tC (.int 0))))
      (tSeq (tAsg (tOp (rI (fun _ j => 0 < j) fun i j => .int (i % j)) (tCB cInt (tCons (tI4 K 2) tNil)) (tVar 1)) (gName 3))
      (tSeq (tAsg (tOp (rI CDivW fun i j => .int (i / j)) (tCB cInt (tCons (tI4 K 2) tNil)) (tVar 1)) (gSub (tVar 0) (tC (.int 2)) rSetL))
        (tRet (tVar 3)))) tNext)
  (tSeq (tAsg (tOp (rI (fun _ j => 0 < j) fun i j => .int (i % j)) (tCB cInt (tCons (tOp (rI0 fun i j => .int (i + j)) (tOp (rI CMul fun i j => .int (i * j)) (tI4 K 3) (tC (.int 69621))) (tC (.int 7))) tNil)) (tC (.int 2147483647))) (gSub (tVar 0) (tC (.int 3)) rSetL))
    (tRet (tOp (rI (fun _ j => 0 < j) fun i j => .int (i % j)) (tCB cInt (tCons (tOp (rI CDiv fun i j => .int (i / j)) (tI4 K 3) (tC (.int 5))) tNil)) (tVar 1)))))
end
section
variable {K : PySem.W.Frag} {S : Sr} {H : Hp} {σ : L2.St} {s : Src}
/-- d[i] reads -/
theorem i4 {xs : List V} {i : Nat} {v : V} {Q : VK} (h0 : σ[0]? = some (some (.ref S.dA))) (h : H S.dA = some (.lst xs)) (hv : xs[i]? = some v) (q : Q v H) : tI4 K (i : Int) σ H Q :=
  ⟨_, h0, S.dA, xs, i, v, rfl, rfl, SqL.of h, atI_nat hv, q⟩
theorem log_small {m : Int} (h1 : 0 < m) (h2 : m ≤ 1000000) : m.natAbs.log2 < 9000 := by
  have : m.natAbs < 2 ^ 20 := by omega
  exact Nat.lt_of_lt_of_le ((Nat.log2_lt (by omega)).mpr this) (by decide)
theorem abs_int (c : Int) : (if c < 0 then -c else c) = ((c.natAbs : Nat) : Int) := by
  by_cases h : c < 0
  · rw [if_pos h]; omega
  · rw [if_neg h]; omega
/-- the part behind the first if, from any state of the source -/
theorem take_tail {m : Int} {Q : VK} {D' : Ends} (hm : 0 < m ∧ m ≤ 1000000) (hrt : D'.rt = Q) (h0 : σ[0]? = some (some (.ref S.dA))) (h1 : σ[1]? = some (some (.int m))) (hl : σ.length = 4) (so : SrcOk S H s)
    (q : ∀ (r : Int) (s' : Src) (H' : Hp), (r, s') = (if 0 < s.big then (s.big % m, { s with big := s.big / m }) else ((s.seed * 69621 + 7) % 2147483647 / 5 % m, { s with seed := (s.seed * 69621 + 7) % 2147483647 })) → Ext S H H' → SrcOk S H' s' → Q (.int r) H') :
    tSeq (tIfS (tTest (tOp (rI0 fun i j => .bl (decide (j < i))) (tI4 K 2) (tC (.int 0))))
      (tSeq (tAsg (tOp (rI (fun _ j => 0 < j) fun i j => .int (i % j)) (tCB cInt (tCons (tI4 K 2) tNil)) (tVar 1)) (gName 3))
      (tSeq (tAsg (tOp (rI CDivW fun i j => .int (i / j)) (tCB cInt (tCons (tI4 K 2) tNil)) (tVar 1)) (gSub (tVar 0) (tC (.int 2)) rSetL))
        (tRet (tVar 3)))) tNext)
  (tSeq (tAsg (tOp (rI (fun _ j => 0 < j) fun i j => .int (i % j)) (tCB cInt (tCons (tOp (rI0 fun i j => .int (i + j)) (tOp (rI CMul fun i j => .int (i * j)) (tI4 K 3) (tC (.int 69621))) (tC (.int 7))) tNil)) (tC (.int 2147483647))) (gSub (tVar 0) (tC (.int 3)) rSetL))
    (tRet (tOp (rI (fun _ j => 0 < j) fun i j => .int (i % j)) (tCB cInt (tCons (tOp (rI CDiv fun i j => .int (i / j)) (tI4 K 3) (tC (.int 5))) tNil)) (tVar 1)))) D' σ H := by
  have hA := so.at_
  refine i4 (i := 2) h0 hA rfl ⟨s.big, 0, rfl, rfl, _, rfl, ite2 (fun hb => ?_) (fun hb => ?_)⟩
  · have hb' : 0 < s.big := of_decide_eq_true hb
    have e3 : (σ.set 3 (some (.int (s.big % m))))[0]? = some (some (.ref S.dA)) := by rw [List.getElem?_set_ne (by decide)]; exact h0
    have e1 : (σ.set 3 (some (.int (s.big % m))))[1]? = some (some (.int m)) := by rw [List.getElem?_set_ne (by decide)]; exact h1
    have e33 : (σ.set 3 (some (V.int (s.big % m))))[3]? = some (some (.int (s.big % m))) := List.getElem?_set_self (by omega)
    refine i4 (i := 2) h0 hA rfl (.inl ⟨s.big, rfl, .int m, h1, s.big, m, rfl, rfl, hm.1, ?_⟩)
    refine i4 (i := 2) e3 hA rfl (.inl ⟨s.big, rfl, .int m, e1, s.big, m, rfl, rfl, ⟨hm.1, log_small hm.1 hm.2⟩, ?_⟩)
    refine ⟨_, e3, S.dA, _, 2, 2, rfl, rfl, hA, rfl, _, e33, ?_⟩
    rw [hrt]
    exact q (s.big % m) { s with big := s.big / m } _ (by rw [if_pos hb']) (ext_src hA) (srcOk_upd (s' := { s with big := s.big / m }) so rfl)
  · have hb' : ¬ 0 < s.big := fun z => hb (decide_eq_true z)
    refine i4 (i := 3) h0 hA rfl ⟨s.seed, 69621, rfl, rfl, .inr ⟨by decide, by decide⟩, s.seed * 69621, 7, rfl, rfl, .inl ⟨s.seed * 69621 + 7, rfl, s.seed * 69621 + 7, 2147483647, rfl, rfl, (by show (0 : Int) < 2147483647; decide), ?_⟩⟩
    refine ⟨_, h0, S.dA, _, 3, 3, rfl, rfl, hA, rfl, ?_⟩
    have so' : SrcOk S (upd H S.dA (.lst [.ref S.q, .int s.pos, .int s.big, .int ((s.seed * 69621 + 7) % 2147483647)])) { s with seed := (s.seed * 69621 + 7) % 2147483647 } := srcOk_upd (s' := { s with seed := (s.seed * 69621 + 7) % 2147483647 }) so rfl
    refine i4 (i := 3) h0 so'.at_ rfl ⟨(s.seed * 69621 + 7) % 2147483647, 5, rfl, rfl, ⟨by decide, by decide⟩, .inl ⟨_, rfl, .int m, h1, _, m, rfl, rfl, hm.1, ?_⟩⟩
    rw [hrt]
    exact q _ { s with seed := (s.seed * 69621 + 7) % 2147483647 } _ (by rw [if_neg hb']) (ext_src hA) so'
theorem take_reads {m : Int} {Q : VK} (so : SrcOk S H s) (hm : 0 < m ∧ m ≤ 1000000) (q : ∀ v H' L', Ext S H H' → SrcOk S H' (take s m).2 → Rp S H' v (.int (take s m).1) L' → Q v H') :
    tTake K { nx := fun _ H' => Q .non H', rt := Q } [some (.ref S.dA), some (.int m), none, none] H := by
  have hA := so.at_
  have q' : ∀ (r : Int) (s' : Src) (H' : Hp), (r, s') = take s m → Ext S H H' → SrcOk S H' s' → Q (.int r) H' := fun r s' H' e x so' => by
    have e1 : r = (take s m).1 := congrArg Prod.fst e
    have e2 : s' = (take s m).2 := congrArg Prod.snd e
    subst e1 e2
    exact q _ H' [] x so' (.int _)
  refine i4 (i := 2) rfl hA rfl ⟨rfl, _, rfl, ite2 (fun hb => ?_) (fun hb => ?_)⟩
  · have hb0 : s.big = 0 := V.int.inj (of_decide_eq_true hb)
    refine i4 (i := 1) rfl hA rfl (i4 (i := 0) rfl hA rfl ⟨S.q, _, rfl, .inl (SqL.of so.cp), s.pos, s.script.length, rfl, ?_, _, rfl, ite2 (fun hp => ?_) (fun hp => ?_)⟩)
    · rw [List.length_map]
    · have hp' : s.pos < s.script.length := by
        have := of_decide_eq_true hp
        omega
      have hc : s.script[s.pos]? = some (s.script.getD s.pos 0) := by
        rw [List.getD_eq_getElem?_getD, List.getElem?_eq_getElem hp']; rfl
      generalize hcc : s.script.getD s.pos 0 = c at hc
      have hcv : (s.script.map V.int)[s.pos]? = some (.int c) := by rw [List.getElem?_map, hc]; rfl
      refine i4 (i := 0) rfl hA rfl (i4 (i := 1) rfl hA rfl ⟨S.q, _, s.pos, .int c, rfl, rfl, SqL.of so.cp, atI_nat hcv, .inl ⟨c, rfl, c, rfl, ?_⟩⟩)
      refine ⟨_, rfl, S.dA, _, 2, 2, rfl, rfl, hA, rfl, ?_⟩
      rw [abs_int]
      have so1 : SrcOk S (upd H S.dA (.lst [.ref S.q, .int s.pos, .int ((c.natAbs : Nat) : Int), .int s.seed])) { s with big := ((c.natAbs : Nat) : Int) } := srcOk_upd (s' := { s with big := ((c.natAbs : Nat) : Int) }) so rfl
      refine i4 (i := 1) rfl so1.at_ rfl ⟨s.pos, 1, rfl, rfl, ?_⟩
      have ep : ((s.pos : Int) + 1) = ((s.pos + 1 : Nat) : Int) := by omega
      show gSub (tVar 0) (tC (V.int 1)) rSetL (.int ((s.pos : Int) + 1)) _ _ _
      rw [ep]
      refine ⟨_, rfl, S.dA, _, 1, 1, rfl, rfl, so1.at_, rfl, ?_⟩
      have so2 : SrcOk S (upd H S.dA (.lst [.ref S.q, .int ((s.pos + 1 : Nat) : Int), .int ((c.natAbs : Nat) : Int), .int s.seed])) { s with pos := s.pos + 1, big := ((c.natAbs : Nat) : Int) } := srcOk_upd (s' := { s with pos := s.pos + 1, big := ((c.natAbs : Nat) : Int) }) so rfl
      have x2 : Ext S H (upd H S.dA (.lst [.ref S.q, .int ((s.pos + 1 : Nat) : Int), .int ((c.natAbs : Nat) : Int), .int s.seed])) := ext_src hA
      rw [upd_upd]
      have e18 : (10 : Int) ^ (18 : Int).toNat = 10 ^ 18 := by simp
      refine i4 (i := 2) rfl so2.at_ rfl ?_
      refine ⟨10, 18, rfl, rfl, ⟨by decide, by decide, by decide⟩, ?_⟩
      refine ⟨((c.natAbs : Nat) : Int), (10 : Int) ^ (18 : Int).toNat, rfl, rfl, ?_⟩
      refine ⟨_, rfl, ?_⟩
      rw [e18]
      generalize hZ : (10 : Int) ^ 18 = Z
      refine ite2 (fun hs => ?_) (fun hs => ?_)
      · have hs' : ((c.natAbs : Nat) : Int) < 10 ^ 18 := by rw [hZ]; exact of_decide_eq_true hs
        refine i4 (i := 2) rfl so2.at_ rfl (.inl ⟨_, rfl, ?_⟩)
        refine ⟨_, rfl, S.dA, _, 2, 2, rfl, rfl, so2.at_, rfl, _, rfl, _, rfl, _, m, rfl, rfl, hm.1, ?_⟩
        have so3 : SrcOk S (upd (upd H S.dA (.lst [.ref S.q, .int ((s.pos + 1 : Nat) : Int), .int ((c.natAbs : Nat) : Int), .int s.seed])) S.dA (.lst [.ref S.q, .int ((s.pos + 1 : Nat) : Int), .int 0, .int s.seed])) { s with pos := s.pos + 1, big := 0 } := srcOk_upd (s' := { s with pos := s.pos + 1, big := 0 }) so2 rfl
        refine q' _ { s with pos := s.pos + 1, big := 0 } _ ?_ (x2.trans (ext_src so2.at_)) so3
        unfold take
        rw [if_pos (show s.big = 0 ∧ s.pos < s.script.length from ⟨hb0, hp'⟩)]
        simp only [hcc]
        rw [if_pos hs']
      · have hs' : ¬ ((c.natAbs : Nat) : Int) < 10 ^ 18 := by rw [hZ]; exact fun z => hs (decide_eq_true z)
        have hpos : (0 : Int) < ((c.natAbs : Nat) : Int) := by
          have : (0 : Int) < 10 ^ 18 := by decide
          omega
        refine take_tail (K := K) (s := { s with pos := s.pos + 1, big := ((c.natAbs : Nat) : Int) }) hm rfl rfl rfl rfl so2 fun r s' H' e x so' => q' r s' H' ?_ (x2.trans x) so'
        rw [e, if_pos (show (0 : Int) < { s with pos := s.pos + 1, big := ((c.natAbs : Nat) : Int) : Src }.big from hpos)]
        unfold take
        rw [if_pos (show s.big = 0 ∧ s.pos < s.script.length from ⟨hb0, hp'⟩)]
        simp only [hcc]
        rw [if_neg hs', if_pos hpos]
    · have hp' : ¬ s.pos < s.script.length := fun z => hp (decide_eq_true (by omega))
      refine take_tail (K := K) hm rfl rfl rfl rfl so fun r s' H' e x so' => q' r s' H' ?_ x so'
      rw [e]
      unfold take
      rw [if_neg (show ¬ (s.big = 0 ∧ s.pos < s.script.length) from fun z => hp' z.2)]
  · have hb0 : s.big ≠ 0 := fun z => hb (decide_eq_true (by rw [z]))
    refine iteF (take_tail (K := K) hm rfl rfl rfl rfl so fun r s' H' e x so' => q' r s' H' ?_ x so')
    rw [e]
    unfold take
    rw [if_neg (show ¬ (s.big = 0 ∧ s.pos < s.script.length) from fun z => hb0 z.1)]
end

/-! ### the source's making, the law's own start -/
def spBegin (K : PySem.W.Frag) : Sp := fun vs H Q _ => ∃ (a : Addr) (ns : List Int), vs = [.ref a] ∧ SqL K H a (ns.map V.int) ∧ ns.length ≤ 63 ∧
  ∀ H' p q seed, H p = none → H q = none → p ≠ q → H' p = some (.lst [.ref q, .int 0, .int 0, .int seed]) → H' q = some (.lst (ns.map V.int)) → Q (.ref p) H'
/-- the reading of its body -/
def tBegin (K : PySem.W.Frag) : TS :=
  tSeq (tAsg (tC (.int 5)) (gName 1))
  (tSeq (tFor (iList K (tVar 0)) (gName 2) (tAsg (tOp (rI (fun _ j => 0 < j) fun i j => .int (i % j)) (tOp (rI0 fun i j => .int (i + j)) (tOp (rI0 fun i j => .int (i + j)) (tOp (rI CMul fun i j => .int (i * j)) (tVar 1) (tC (.int 48271))) (tOp (rI (fun _ j => 0 < j) fun i j => .int (i % j)) (tCB cInt (tCons (tVar 2) tNil)) (tC (.int 2147483629)))) (tC (.int 11))) (tC (.int 2147483647))) (gName 1)))
  (tRet (tLst (tCons (tCB (fun xs H Q => ∃ p ys, xs = [.ref p] ∧ (SqL K H p ys ∨ SqT K H p ys) ∧ ∀ l, H l = none → Q (.ref l) (upd H l (.lst ys))) (tCons (tVar 0) tNil)) (tCons (tC (.int 0)) (tCons (tC (.int 0)) (tCons (tVar 1) tNil)))))))
theorem begin_reads {K : PySem.W.Frag} {vs : List V} {H : Hp} {Q : VK} {E : XK} (h : spBegin K vs H Q E) : tBegin K { nx := fun _ H' => Q .non H', rt := Q } (L2.start ["script", "seed", "cell"] vs) H := by
  obtain ⟨a, ns, rfl, hS, hl, q⟩ := h
  refine ⟨.ref a, rfl, a, rfl, ⟨_, hS⟩, ?_⟩
  refine for_list (K := K) (a := a) (xs := ns.map V.int) (fun i σ G => G = H ∧ ∃ z y, σ = [some (.ref a), some (.int z), y]) ⟨rfl, 5, none, rfl⟩ (fun i σ G _ ⟨e, _⟩ => e ▸ hS) (fun i x σ G hx ⟨e, z, y, eσ⟩ => ?_) (fun σ G ⟨e, z, y, eσ⟩ => ?_)
  · subst e eσ
    obtain ⟨c, hc⟩ : ∃ c : Int, x = .int c := by
      rw [List.getElem?_map] at hx
      obtain ⟨c, _, e⟩ := Option.map_eq_some_iff.mp hx
      exact ⟨c, e.symm⟩
    subst hc
    refine ⟨.int z, rfl, z, 48271, rfl, rfl, .inr ⟨by decide, by decide⟩, .int c, rfl, .inl ⟨c, rfl, c, 2147483629, rfl, rfl, (by show (0 : Int) < 2147483629; decide), _, _, rfl, rfl, _, 11, rfl, rfl, _, 2147483647, rfl, rfl, (by show (0 : Int) < 2147483647; decide), rfl, _, _, rfl⟩⟩
  · subst e eσ
    refine ⟨.ref a, rfl, a, ns.map V.int, rfl, .inl hS, fun l hl2 => ⟨.int z, rfl, Nat.le_trans (by show 4 ≤ 1000000; decide) (size_ok (Nat.le_refl _)), fun p np => ?_⟩⟩
    have npl : p ≠ l := fun e => by rw [e, upd_same] at np; cases np
    rw [upd_ne npl] at np
    exact q _ p l z np hl2 npl upd_same (by rw [upd_ne (Ne.symm npl), upd_same])
/-- the law's statements behind the source's making -/
theorem law_reads {n : Nat} {g : FS} {a p q : Addr} {ns : List Int} {seed : Int} {H' : Hp} {D' : Ends} (hpq : p ≠ q) (hp : H' p = some (.lst [.ref q, .int 0, .int 0, .int seed])) (hq : H' q = some (.lst (ns.map V.int)))
    (hg : ∀ st : Src, ∃ st', g (.no :: .rd .src :: List.replicate n .no) st = some (.rt (.bl true), st')) (hrt : ∀ H2, D'.rt (.bl true) H2) : tS g D' (some (.ref a) :: some (.ref p) :: List.replicate n none) H' := by
  obtain ⟨st', e⟩ := hg ⟨ns, 0, 0, seed⟩
  refine ⟨⟨p, q, fun b => b = p ∨ b = q, .inl rfl, .inr rfl⟩, fun b => H' b = none ∨ b = p, H', _, _, _, st', ⟨by simp, HE.refl, .inr rfl, fun b z => .inl z, fun _ => [], fun i d h => ?_, fun i d h => ?_⟩, ⟨Ne.symm hpq, hp, hq, fun b hb z => ?_⟩, e, fun v H2 L _ _ r => ?_⟩
  · match i with
    | 0 => cases h
    | 1 =>
      cases h
      exact ⟨_, rfl, .src (S := ⟨p, q, fun b => b = p ∨ b = q, .inl rfl, .inr rfl⟩)⟩
    | i + 2 =>
      unfold gt at h
      simp only [List.getElem?_cons_succ, List.getElem?_replicate] at h
      split at h <;> cases h
  · match i with
    | 0 => cases h
    | 1 => cases h
    | i + 2 =>
      simp only [List.getElem?_cons_succ, List.getElem?_replicate] at h
      split at h <;> cases h
  · rcases hb with rfl | rfl
    · rw [hp] at z; cases z
    · rw [hq] at z; cases z
  · obtain ⟨rfl, _⟩ := r.ibl
    exact hrt H2
def spLaw (K : PySem.W.Frag) : Sp := fun vs H Q _ => ∃ (a : Addr) (ns : List Int), vs = [.ref a] ∧ SqL K H a (ns.map V.int) ∧ ns.length ≤ 63 ∧ ∀ H', Q (.bl true) H'
end DL
set_option Elab.async false
set_option linter.all false
set_option maxRecDepth 100000
set_option maxHeartbeats 4000000
/-! DL8: comprehensions with two loops. -/
namespace DL
open PySem PySem.Spec PyProof.Rows L2

def cLp2 (vs : List Nat) (g : D → Ev → Option Ev) (tt : Ev → M Bool) (inn : Ev → M (List D)) (δ : Ev) : List D → M (List D)
  | [] => M.ret []
  | x :: xs => (M.of (g x (wipeE δ vs))).bd fun δ1 => (tt δ1).bd fun b => if b = true then (inn δ1).bd fun ys => (cLp2 vs g tt inn δ xs).bd fun zs => M.ret (ys ++ zs) else cLp2 vs g tt inn δ xs
def inLc (h : FI) (vs : List Nat) (g : D → Ev → Option Ev) (tt : Ev → M Bool) (te : FE) : Ev → M (List D) := fun δ => (h δ).bd fun ds => if ds.length ≤ 1000 then cLp vs g tt te δ ds else M.no
def eLc2 (h : FI) (vs : List Nat) (g : D → Ev → Option Ev) (tt : Ev → M Bool) (h1 : FI) (vs1 : List Nat) (g1 : D → Ev → Option Ev) (tt1 : Ev → M Bool) (te : FE) : FE :=
  fun δ => (h δ).bd fun ds => if ds.length ≤ 1000 then (cLp2 vs g tt (inLc h1 vs1 g1 tt1 te) δ ds).bd fun ys => M.ret (.lst ys) else M.no
theorem Rs.extN {S : Sr} {H H' : Hp} {Dl : Addr} {σ : L2.St} {δ : Ev} (r : Rs (S.hide Dl) H σ δ) (he : HE (fun b => b = S.dA ∨ b = Dl) H H') : Rs (S.hide Dl) H' σ δ := ⟨r.len, fun j d e => by
  obtain ⟨v, L, h1, h2⟩ := r.at_ j d e
  exact ⟨v, L, h1, h2.ext he fun a ha z => (h2.ne a ha).1 (z.elim (fun z => .inl (z ▸ S.hA)) .inr)⟩⟩
theorem Rps.extN {S : Sr} {H H' : Hp} {Dl : Addr} {vs : List V} {ds : List D} {L : List Addr} (r : Rps (S.hide Dl) H vs ds L) (he : HE (fun b => b = S.dA ∨ b = Dl) H H') : Rps (S.hide Dl) H' vs ds L :=
  r.ext he fun a ha z => (r.ne a ha).1 (z.elim (fun z => .inl (z ▸ S.hA)) .inr)
theorem tLc2_imp {h h1 : FI} {vs vs1 : List Nat} {g g1 : D → Ev → Option Ev} {tt tt1 : Ev → M Bool} {te : FE} : ∀ σ H Q, tD (eLc2 h vs g tt h1 vs1 g1 tt1 te) σ H Q → tLc2 (tI h) (tGd vs g) (tBo tt) (tI h1) (tGd vs1 g1) (tBo tt1) (tD te) vs vs1 σ H Q := fun σ H Q ⟨S, δ, st, d, st', rs, so, e, q⟩ => by
  obtain ⟨ds, s1, eh, e⟩ := bd_inv e
  by_cases hz : ds.length ≤ 1000
  rotate_left
  · rw [if_neg hz] at e; cases e
  rw [if_pos hz] at e
  obtain ⟨all, s2, ec, e⟩ := bd_inv e
  obtain ⟨e1, e2⟩ := ret_inv e
  subst e1 e2
  refine ⟨S, δ, st, ds, s1, rs, so, eh, fun J H1 La x1 so1 wk Dl nD => ?_⟩
  have nA : Dl ≠ S.dA := fun z => so1.tr _ S.hA (z ▸ nD)
  have nq : Dl ≠ S.q := fun z => so1.tr _ S.hQ (z ▸ nD)
  have rs1 : Rs (S.hide Dl) H1 σ δ := (rs.extS x1).hide fun xs z => by rw [nD] at z; cases z
  have laA : ∀ b, b = S.dA → b ∉ La := fun b e hb => (wk.la b hb).1 (e ▸ S.hA)
  refine ⟨fun i m H => m = ds.length - i ∧ i ≤ ds.length ∧ ∃ acc accD L sti ys, H Dl = some (.lst acc) ∧ Rps (S.hide Dl) H acc accD L ∧ acc.length ≤ i * 1000 ∧ Ext S H1 H ∧ SrcOk (S.hide Dl) H sti ∧ cLp2 vs g tt (inLc h1 vs1 g1 tt1 te) δ (ds.drop i) sti = some (ys, st') ∧ accD ++ ys = all, ⟨ds.length, rfl, Nat.zero_le _, [], [], [], s1, all, upd_same, .nil, Nat.zero_le _, HE.refl.out nD, (so1.ext0 (HE.fresh nD)).hide (by rw [upd_same]; exact fun z => nomatch z), ec, rfl⟩, ?_⟩
  rintro i m H2 ⟨rfl, hi, acc, accD, L, sti, ys, hD, ra, hl, x2, so2, ec2, eall⟩
  have x2' : HE (fun b => b ∉ La) H1 H2 := x2.mono laA
  by_cases hlt : i < ds.length
  · refine .inr ⟨wk.go i H2 x2' hlt, fun H' => (fun i m H => m = ds.length - i ∧ i ≤ ds.length ∧ ∃ acc accD L sti ys, H Dl = some (.lst acc) ∧ Rps (S.hide Dl) H acc accD L ∧ acc.length ≤ i * 1000 ∧ Ext S H1 H ∧ SrcOk (S.hide Dl) H sti ∧ cLp2 vs g tt (inLc h1 vs1 g1 tt1 te) δ (ds.drop i) sti = some (ys, st') ∧ accD ++ ys = all) (i + 1) (ds.length - (i + 1)) H', fun H' hN => ⟨ds.length - (i + 1), by omega, hN⟩, fun x H3 y => ?_⟩
    obtain ⟨d, Ld, hd, x3, rd, hLd⟩ := wk.yld i H2 x H3 x2' so2.show'.tr hlt y
    have hdrop : ds.drop i = d :: ds.drop (i + 1) := by
      have e1 := List.drop_eq_getElem_cons hlt
      have e2 : ds[i] = d := by
        have := List.getElem?_eq_getElem hlt
        rw [this] at hd
        exact Option.some.inj hd
      rw [e1, e2]
    rw [hdrop, cLp2] at ec2
    obtain ⟨δ1, t1, eg0, ec3⟩ := bd_inv ec2
    obtain ⟨eg, et⟩ := of_inv eg0
    clear eg0 ec2
    subst et
    obtain ⟨b, t2, eb, ec2⟩ := bd_inv ec3
    clear ec3
    have x13 : Ext S H1 H3 := x2.trans x3.up0
    have so3 : SrcOk (S.hide Dl) H3 t1 := so2.ext0 x3
    have hD3 : H3 Dl = some (.lst acc) := x3.lst _ _ (fun z => z) hD
    refine ⟨S.hide Dl, wipeE δ vs, d, Ld, δ1, (rs1.extS (S := S.hide Dl) x13).wipe vs, rd.hide fun a ha z => ?_, eg, fun σ2 o2 l2 rs2 => ⟨wipe_eq o2 l2, S.hide Dl, δ1, t1, b, t2, rs2, so3, eb, fun H4 x4 so4 => ?_⟩⟩
    · obtain ⟨_, xs, w⟩ := wk.la a (hLd a ha)
      rw [z, nD] at w
      cases w
    have hD4 : H4 Dl = some (.lst acc) := x4.lst _ _ nA hD3
    have ra4 : Rps (S.hide Dl) H4 acc accD L := (ra.ext0 x3).extS x4
    have x14 : Ext S H1 H4 := x13.trans x4
    cases b with
    | false =>
      rw [if_neg Bool.false_ne_true] at ec2
      refine iteF ?_
      exact ⟨rfl, hlt, acc, accD, L, t2, ys, hD4, ra4, by omega, x14, so4, ec2, eall⟩
    | true =>
      rw [if_pos rfl] at ec2
      refine iteT ?_
      obtain ⟨iy, t3, ei, ec4⟩ := bd_inv ec2
      obtain ⟨zs, t4, er, ec5⟩ := bd_inv ec4
      obtain ⟨e1, e2⟩ := ret_inv ec5
      clear ec2 ec4 ec5
      subst e1 e2
      obtain ⟨ds1, u1, eh1, ei⟩ := bd_inv ei
      by_cases hz1 : ds1.length ≤ 1000
      rotate_left
      · rw [if_neg hz1] at ei; cases ei
      rw [if_pos hz1] at ei
      refine ⟨S.hide Dl, δ1, t2, ds1, u1, rs2.extS x4, so4, eh1, fun J1 H5 La1 x5 so5 wk1 => ?_⟩
      have hD5 : H5 Dl = some (.lst acc) := x5.lst _ _ nA hD4
      have ra5 : Rps (S.hide Dl) H5 acc accD L := ra4.extS x5
      have x15 : Ext S H1 H5 := x14.trans x5
      have rs5 : Rs (S.hide Dl) H5 σ2 δ1 := (rs2.extS x4).extS x5
      have laA1 : ∀ b, (b = S.dA ∨ b = Dl) → b ∉ La1 := fun b e hb => (wk1.la b hb).1 (e.elim (fun z => .inl (z ▸ S.hA)) .inr)
      refine ⟨fun j k H => k = ds1.length - j ∧ j ≤ ds1.length ∧ ∃ acc accD L stj yj, H Dl = some (.lst acc) ∧ Rps (S.hide Dl) H acc accD L ∧ acc.length ≤ i * 1000 + j ∧ Ext S H1 H ∧ HE (fun b => b = S.dA ∨ b = Dl) H5 H ∧ SrcOk (S.hide Dl) H stj ∧ cLp vs1 g1 tt1 te δ1 (ds1.drop j) stj = some (yj, t3) ∧ accD ++ (yj ++ zs) = all, ⟨ds1.length, rfl, Nat.zero_le _, acc, accD, L, u1, iy, hD5, ra5, hl, x15, HE.refl, so5, ei, eall⟩, ?_⟩
      clear hD5 ra5 hD4 ra4 hD3 hD ra hl
      rintro j k H6 ⟨rfl, hj, acc, accD, L, stj, yj, hD6, ra6, hl6, x16, x56, so6, ej, eall6⟩
      have x56' : HE (fun b => b ∉ La1) H5 H6 := x56.mono laA1
      by_cases hjt : j < ds1.length
      · refine .inr ⟨wk1.go j H6 x56' hjt, fun H' => (fun j k H => k = ds1.length - j ∧ j ≤ ds1.length ∧ ∃ acc accD L stj yj, H Dl = some (.lst acc) ∧ Rps (S.hide Dl) H acc accD L ∧ acc.length ≤ i * 1000 + j ∧ Ext S H1 H ∧ HE (fun b => b = S.dA ∨ b = Dl) H5 H ∧ SrcOk (S.hide Dl) H stj ∧ cLp vs1 g1 tt1 te δ1 (ds1.drop j) stj = some (yj, t3) ∧ accD ++ (yj ++ zs) = all) (j + 1) (ds1.length - (j + 1)) H', fun H' hN => ⟨ds1.length - (j + 1), by omega, hN⟩, fun x' H7 y' => ?_⟩
        obtain ⟨d', Ld', hd', x7, rd', hLd'⟩ := wk1.yld j H6 x' H7 x56' so6.tr hjt y'
        have hdrop1 : ds1.drop j = d' :: ds1.drop (j + 1) := by
          have e1 := List.drop_eq_getElem_cons hjt
          have e2 : ds1[j] = d' := by
            have := List.getElem?_eq_getElem hjt
            rw [this] at hd'
            exact Option.some.inj hd'
          rw [e1, e2]
        rw [hdrop1, cLp] at ej
        obtain ⟨δ2, v1, eg0, ec3⟩ := bd_inv ej
        obtain ⟨eg1, et⟩ := of_inv eg0
        clear eg0 ej
        subst et
        obtain ⟨b', v2, eb', ec2⟩ := bd_inv ec3
        clear ec3
        have x17 : Ext S H1 H7 := x16.trans x7.up0
        have x57 : HE (fun b => b = S.dA ∨ b = Dl) H5 H7 := x56.trans x7.up0
        have so7 : SrcOk (S.hide Dl) H7 v1 := so6.ext0 x7
        have hD7 : H7 Dl = some (.lst acc) := x7.lst _ _ (fun z => z) hD6
        refine ⟨S.hide Dl, wipeE δ1 vs1, d', Ld', δ2, (rs5.extN x57).wipe vs1, rd', eg1, fun σ3 o3 l3 rs3 => ⟨wipe_eq o3 l3, S.hide Dl, δ2, v1, b', v2, rs3, so7, eb', fun H8 x8 so8 => ?_⟩⟩
        have hD8 : H8 Dl = some (.lst acc) := x8.lst _ _ nA hD7
        have ra8 : Rps (S.hide Dl) H8 acc accD L := (ra6.ext0 x7).extS x8
        have x18 : Ext S H1 H8 := x17.trans x8
        have x58 : HE (fun b => b = S.dA ∨ b = Dl) H5 H8 := x57.trans (x8.mono fun _ => .inl)
        cases b' with
        | false =>
          rw [if_neg Bool.false_ne_true] at ec2
          refine iteF ?_
          exact ⟨rfl, hjt, acc, accD, L, v2, yj, hD8, ra8, by omega, x18, x58, so8, ec2, eall6⟩
        | true =>
          rw [if_pos rfl] at ec2
          refine iteT ?_
          obtain ⟨yD, v3, ey, ec4⟩ := bd_inv ec2
          obtain ⟨ys', v4, er', ec5⟩ := bd_inv ec4
          obtain ⟨e1, e2⟩ := ret_inv ec5
          clear ec2 ec4 ec5
          subst e1 e2
          refine ⟨S.hide Dl, δ2, v2, yD, v3, rs3.extS x8, so8, ey, fun v H9 L9 x9 so9 r9 => ?_⟩
          have hD9 : H9 Dl = some (.lst acc) := x9.lst _ _ nA hD8
          have ra9 := (ra8.extS x9).append (Rps.one r9)
          have hsz : acc.length < 1000000 := by
            have h1 : i * 1000 ≤ 999 * 1000 := Nat.mul_le_mul_right _ (by omega)
            omega
          refine ⟨acc, hD9, Nat.lt_of_lt_of_le hsz (size_ok (Nat.le_refl _)), rfl, hjt, acc ++ [v], accD ++ [yD], _, v3, ys', upd_same, ra9.ext (HE.writeN hD9) (fun a ha z => (ra9.ne a ha).1 (.inr z)), by rw [List.length_append]; exact Nat.succ_le_succ hl6, (x18.trans x9).out nD, (x58.trans (x9.mono fun _ => .inl)).trans ((HE.writeN hD9).mono fun _ => .inr), so9.writeN nA nq, er', by rw [List.append_assoc]; exact eall6⟩
      · have ed : ds1.drop j = [] := List.drop_eq_nil_of_le (by omega)
        rw [ed, cLp] at ej
        obtain ⟨e1, e2⟩ := ret_inv ej
        subst e1 e2
        refine .inl ⟨wk1.stop j H6 x56' (by omega), rfl, hlt, acc, accD, L, t3, zs, hD6, ra6, by omega, x16, so6, er, eall6⟩
  · have ei : ds.drop i = [] := List.drop_eq_nil_of_le (by omega)
    rw [ei, cLp2] at ec2
    obtain ⟨e1, e2⟩ := ret_inv ec2
    subst e1 e2
    rw [List.append_nil] at eall
    subst eall
    exact .inl ⟨wk.stop i H2 x2' (by omega), q (.ref Dl) H2 (Dl :: L) (x1.trans x2) so2.show' (.lst hD (fun z => so1.tr _ z nD) ra.show')⟩
section
variable {X : Cx}
theorem d_lc2 {elt tg iter tg1 iter1 : Expr} {ifs ifs1 : List Expr} {scope : Scope} {own : List (Str × Nat)} {vs1 : List Nat} {pos : Pos} {h h1 : FI} {g g1 : D → Ev → Option Ev} {tt tt1 : Ev → M Bool} {te : FE} (hc : X.calm = true) (hN : X.N.Nodup) (hi : DI X tg iter h) (ok : BlkOk X.N X.env.scope scope own) (hv : ∀ i ∈ vs1, i ∈ own.map (·.2))
    (hg : ∀ (s : Shared) (H : Hp) (C : Addr) (cl : List (Str × Addr)) (fp : List Addr), DG (X.blk s H scope (compEnvC scope cl C X.env) fp) tg (own.map (·.2)) g) (ht : ∀ (s : Shared) (H : Hp) (C : Addr) (cl : List (Str × Addr)) (fp : List Addr), DTs (X.blk s H scope (compEnvC scope cl C X.env) fp) ifs tt)
    (hi1 : ∀ (s : Shared) (H : Hp) (C : Addr) (cl : List (Str × Addr)) (fp : List Addr), DI (X.blk s H scope (compEnvC scope cl C X.env) fp) tg1 iter1 h1)
    (hg1 : ∀ (s : Shared) (H : Hp) (C : Addr) (cl : List (Str × Addr)) (fp : List Addr), DG (X.blk s H scope (compEnvC scope cl C X.env) fp) tg1 vs1 g1) (ht1 : ∀ (s : Shared) (H : Hp) (C : Addr) (cl : List (Str × Addr)) (fp : List Addr), DTs (X.blk s H scope (compEnvC scope cl C X.env) fp) ifs1 tt1)
    (he : ∀ (s : Shared) (H : Hp) (C : Addr) (cl : List (Str × Addr)) (fp : List Addr), DE (X.blk s H scope (compEnvC scope cl C X.env) fp) elt te) (hs : ∀ x, foldedSetIterable iter X.env x = pure x := by intro _; rfl) (hs1 : ∀ env x, foldedSetIterable iter1 env x = pure x := by intro _ _; rfl) :
    DE X (.ListComp elt [⟨tg, iter, ifs, 0⟩, ⟨tg1, iter1, ifs1, 0⟩] scope pos) (eLc2 h (own.map (·.2)) g tt h1 vs1 g1 tt1 te) := (pe_lc2 hc hN hi ok hv hg ht hi1 hg1 ht1 he hs hs1).imp tLc2_imp
end
end DL
set_option Elab.async false
set_option linter.all false
set_option maxRecDepth 100000
set_option maxHeartbeats 4000000
/-! DL9: greatest, least and sum of a list or a tuple; deep membership. -/
namespace DL
open PySem PySem.Spec PyProof.Rows L2

section
variable {prog : Program} {w : World} {A : Around} {E : Value → Shared → Prop} {s : Shared} {l : Addr} {its : List Value} {ns : List Int} {Q : Value → Shared → Prop}
theorem tup_fp (hT : s.heap.IsTuple l its.toArray) {o : Obj} : ∀ c ∈ [s.heap.objs.size, l], c < (s.heap.push o).objs.size := fun c hc => by
  have hlt : l < s.heap.objs.size := by obtain ⟨_, e, _⟩ := hT; exact Heap.lt_size e
  rw [Heap.size_push]
  rcases List.mem_cons.mp hc with rfl | hc
  · exact Nat.lt_succ_self _
  · rcases List.mem_cons.mp hc with rfl | hc
    · exact Nat.lt_succ_of_lt hlt
    · cases hc
theorem max_tupG (hh : A.handled = none) (hT : s.heap.IsTuple l its.toArray) (hi : IntsAre its ns) (hne : 0 < ns.length)
    (h : ∀ h' tk m t', (∀ b o, s.heap.get? b = some o → h'.get? b = some o) → m ∈ ns → (∀ a, a ∈ ns → a ≤ m) → Q (.int m t') { s with heap := h', toks := tk }) : wpAny (model prog w) A (call (.builtin "max") [.ref l]) Q E s := by
  have hlt : l < s.heap.objs.size := by obtain ⟨_, e, _⟩ := hT; exact Heap.lt_size e
  have fp := fun (o : Obj) => tup_fp (o := o) hT
  obtain ⟨xs, e⟩ := hi.allInts.items
  have hn : numsOf (intItems xs).toList = ns := by rw [← e]; exact hi.numsOf
  rw [nums_intItems] at hn
  subst hn
  rw [e] at hT
  have hsz : 0 < xs.size := by simpa using hne
  refine call_max_walk (wpAny_pyIter_tuple hT ?_)
  refine ⟨_, [_, l], [_], _, _, _, _, rfl, Walks.tuple (A := A.in1) hh _ l (Nat.ne_of_lt hlt) (intItems xs), ⟨⟨_, Heap.get?_push_size _ rfl, rfl, rfl⟩, hT.push _⟩, fp _, by simpa [intItems] using hsz, CmpOf.ints_gt (numAt xs) (fun _ _ => intItems_at), fun v h' tk hP hk => ?_⟩
  obtain ⟨t, rfl⟩ := intItems_at hP
  have hb := argBest_gt (numAt xs) (xs.size - 1)
  obtain ⟨h1, h2⟩ := hb
  have e2 : (intItems xs).size - 1 = xs.size - 1 := by simp [intItems]
  rw [e2]
  have hold : ∀ c o, s.heap.get? c = some o → h'.get? c = some o := fun c o e => by
    refine hk c o (fun hm => ?_) (Heap.get?_push_of_some _ e)
    rcases List.mem_cons.mp hm with e1 | hm
    · exact absurd (e1 ▸ Heap.lt_size e) (Nat.lt_irrefl _)
    · cases hm
  refine h h' tk _ t hold ?_ fun a ha => ?_
  · rw [numAt_eq]; exact PySem.getD_mem (by rw [List.length_map, Array.length_toList]; omega)
  · obtain ⟨j, hj, rfl⟩ := mem_getD ha
    rw [List.length_map, Array.length_toList] at hj
    rw [← numAt_eq]; exact h2 j (by omega)
theorem min_tupG (hh : A.handled = none) (hT : s.heap.IsTuple l its.toArray) (hi : IntsAre its ns) (hne : 0 < ns.length)
    (h : ∀ h' tk m t', (∀ b o, s.heap.get? b = some o → h'.get? b = some o) → m ∈ ns → (∀ a, a ∈ ns → m ≤ a) → Q (.int m t') { s with heap := h', toks := tk }) : wpAny (model prog w) A (call (.builtin "min") [.ref l]) Q E s := by
  have hlt : l < s.heap.objs.size := by obtain ⟨_, e, _⟩ := hT; exact Heap.lt_size e
  have fp := fun (o : Obj) => tup_fp (o := o) hT
  obtain ⟨xs, e⟩ := hi.allInts.items
  have hn : numsOf (intItems xs).toList = ns := by rw [← e]; exact hi.numsOf
  rw [nums_intItems] at hn
  subst hn
  rw [e] at hT
  have hsz : 0 < xs.size := by simpa using hne
  refine call_min_walk (wpAny_pyIter_tuple hT ?_)
  refine ⟨_, [_, l], [_], _, _, _, _, rfl, Walks.tuple (A := A.in1) hh _ l (Nat.ne_of_lt hlt) (intItems xs), ⟨⟨_, Heap.get?_push_size _ rfl, rfl, rfl⟩, hT.push _⟩, fp _, by simpa [intItems] using hsz, CmpOf.ints_lt (numAt xs) (fun _ _ => intItems_at), fun v h' tk hP hk => ?_⟩
  obtain ⟨t, rfl⟩ := intItems_at hP
  have hb := argBest_lt (numAt xs) (xs.size - 1)
  obtain ⟨h1, h2⟩ := hb
  have e2 : (intItems xs).size - 1 = xs.size - 1 := by simp [intItems]
  rw [e2]
  have hold : ∀ c o, s.heap.get? c = some o → h'.get? c = some o := fun c o e => by
    refine hk c o (fun hm => ?_) (Heap.get?_push_of_some _ e)
    rcases List.mem_cons.mp hm with e1 | hm
    · exact absurd (e1 ▸ Heap.lt_size e) (Nat.lt_irrefl _)
    · cases hm
  refine h h' tk _ t hold ?_ fun a ha => ?_
  · rw [numAt_eq]; exact PySem.getD_mem (by rw [List.length_map, Array.length_toList]; omega)
  · obtain ⟨j, hj, rfl⟩ := mem_getD ha
    rw [List.length_map, Array.length_toList] at hj
    rw [← numAt_eq]; exact h2 j (by omega)
theorem sum_tupG (hh : A.handled = none) (hT : s.heap.IsTuple l its.toArray) (hi : IntsAre its ns)
    (h : ∀ h' tk t', (∀ b o, s.heap.get? b = some o → h'.get? b = some o) → Q (.int ns.sum t') { s with heap := h', toks := tk }) : wpAny (model prog w) A (call (.builtin "sum") [.ref l]) Q E s := by
  obtain ⟨xs, e⟩ := hi.allInts.items
  have hn : numsOf (intItems xs).toList = ns := by rw [← e]; exact hi.numsOf
  rw [nums_intItems] at hn
  rw [e] at hT
  refine PySem.W.ktm_sumG hh hT fun h' tk t' hk => ?_
  have := h h' tk t' hk
  rw [preSum_eq, List.take_of_length_le (by simp), hn]; exact this
end
section
variable {X : Cx}
def rMaxA (K : PySem.W.Frag) : List V → Hp → VK → Prop := fun vs H Q => ∃ (a : Addr) (ns : List Int), vs = [V.ref a] ∧ (SqL K H a (ns.map V.int) ∨ SqT K H a (ns.map V.int)) ∧ 0 < ns.length ∧ ∀ m, m ∈ ns → (∀ y, y ∈ ns → y ≤ m) → Q (.int m) H
def rMinA (K : PySem.W.Frag) : List V → Hp → VK → Prop := fun vs H Q => ∃ (a : Addr) (ns : List Int), vs = [V.ref a] ∧ (SqL K H a (ns.map V.int) ∨ SqT K H a (ns.map V.int)) ∧ 0 < ns.length ∧ ∀ m, m ∈ ns → (∀ y, y ∈ ns → m ≤ y) → Q (.int m) H
def rSumA (K : PySem.W.Frag) : List V → Hp → VK → Prop := fun vs H Q => ∃ (a : Addr) (ns : List Int), vs = [V.ref a] ∧ (SqL K H a (ns.map V.int) ∨ SqT K H a (ns.map V.int)) ∧ Q (.int ns.sum) H
theorem cr_maxA (hc : X.calm = true) : CallR X (.builtin "max") (rMaxA X.K) := by
  intro pins s σ H vs us Q I r h
  obtain ⟨a, ns, rfl, hs | hs, hne, q⟩ := h
  · exact cr_max hc pins s σ H _ us Q I r ⟨a, ns, rfl, hs, hne, q⟩
  · obtain ⟨its, rv, hl, _⟩ := I.tuple hs
    rw [Vals.ref1 r]
    exact max_tupG (I.ok.hd hc) hl rv.ints hne fun h' tk m t' hk h1 h2 => ⟨.int _, H, I.kept hk, ⟨_, rfl⟩, q m h1 h2⟩
theorem cr_minA (hc : X.calm = true) : CallR X (.builtin "min") (rMinA X.K) := by
  intro pins s σ H vs us Q I r h
  obtain ⟨a, ns, rfl, hs | hs, hne, q⟩ := h
  · exact cr_min hc pins s σ H _ us Q I r ⟨a, ns, rfl, hs, hne, q⟩
  · obtain ⟨its, rv, hl, _⟩ := I.tuple hs
    rw [Vals.ref1 r]
    exact min_tupG (I.ok.hd hc) hl rv.ints hne fun h' tk m t' hk h1 h2 => ⟨.int _, H, I.kept hk, ⟨_, rfl⟩, q m h1 h2⟩
theorem cr_sumA (hc : X.calm = true) : CallR X (.builtin "sum") (rSumA X.K) := by
  intro pins s σ H vs us Q I r h
  obtain ⟨a, ns, rfl, hs | hs, q⟩ := h
  · exact cr_sum hc pins s σ H _ us Q I r ⟨a, ns, rfl, hs, q⟩
  · obtain ⟨its, rv, hl, _⟩ := I.tuple hs
    rw [Vals.ref1 r]
    exact sum_tupG (I.ok.hd hc) hl rv.ints fun h' tk t' hk => ⟨.int _, H, I.kept hk, ⟨_, rfl⟩, q⟩
/-- the greatest and the least of some numbers -/
def mxI : List Int → Int
  | [] => 0
  | [x] => x
  | x :: y :: xs => max x (mxI (y :: xs))
def mnI : List Int → Int
  | [] => 0
  | [x] => x
  | x :: y :: xs => min x (mnI (y :: xs))
theorem mxI_spec : ∀ (l : List Int), l ≠ [] → mxI l ∈ l ∧ ∀ a ∈ l, a ≤ mxI l
  | [], h => absurd rfl h
  | [x], _ => by simp [mxI]
  | x :: y :: xs, _ => by
    obtain ⟨h1, h2⟩ := mxI_spec (y :: xs) (by simp)
    have hm : mxI (x :: y :: xs) = max x (mxI (y :: xs)) := rfl
    rw [hm]
    refine ⟨?_, fun a ha => ?_⟩
    · rcases Int.le_total x (mxI (y :: xs)) with h | h
      · rw [Int.max_eq_right h]; exact List.mem_cons_of_mem _ h1
      · rw [Int.max_eq_left h]; exact List.mem_cons_self
    · rcases List.mem_cons.mp ha with rfl | ha
      · omega
      · have := h2 a ha; omega
theorem mnI_spec : ∀ (l : List Int), l ≠ [] → mnI l ∈ l ∧ ∀ a ∈ l, mnI l ≤ a
  | [], h => absurd rfl h
  | [x], _ => by simp [mnI]
  | x :: y :: xs, _ => by
    obtain ⟨h1, h2⟩ := mnI_spec (y :: xs) (by simp)
    have hm : mnI (x :: y :: xs) = min x (mnI (y :: xs)) := rfl
    rw [hm]
    refine ⟨?_, fun a ha => ?_⟩
    · rcases Int.le_total x (mnI (y :: xs)) with h | h
      · rw [Int.min_eq_left h]; exact List.mem_cons_self
      · rw [Int.min_eq_right h]; exact List.mem_cons_of_mem _ h1
    · rcases List.mem_cons.mp ha with rfl | ha
      · omega
      · have := h2 a ha; omega
def bMaxS : List D → Option D
  | [d] => (d.items.bind intL).bind fun ns => if ns.isEmpty = true then none else some (.int (mxI ns))
  | _ => none
def bMinS : List D → Option D
  | [d] => (d.items.bind intL).bind fun ns => if ns.isEmpty = true then none else some (.int (mnI ns))
  | _ => none
def bSumS : List D → Option D
  | [d] => (d.items.bind intL).map fun ns => .int ns.sum
  | _ => none
theorem itemsI {S : Sr} {H : Hp} {x : V} {a : D} {L : List Addr} {ns : List Int} {K : PySem.W.Frag} (r : Rp S H x a L) (e : a.items.bind intL = some ns) : ∃ p, x = .ref p ∧ (SqL K H p (ns.map V.int) ∨ SqT K H p (ns.map V.int)) := by
  obtain ⟨ys, e1, e2⟩ := Option.bind_eq_some_iff.mp e
  obtain ⟨p, vs, L', rfl, ho, rs'⟩ := r.items e1
  have := rs'.intL e2
  subst this
  exact ⟨p, rfl, ho.elim (fun z => .inl (.inl z)) fun z => .inr (.inl z)⟩
theorem b_maxS (hc : X.calm = true) : CallR X (.builtin "max") (rDs bMaxS) := (cr_maxA hc).imp fun x H Q ⟨S, ds, d, La, hn, rs, e, q⟩ => by
  match ds, e with
  | [a], e =>
    obtain ⟨v, rfl, r⟩ := rs.i1
    obtain ⟨ns, e1, e2⟩ := Option.bind_eq_some_iff.mp (show ((a.items.bind intL).bind fun ns => if ns.isEmpty = true then none else some (D.int (mxI ns))) = some d from e)
    obtain ⟨p, rfl, h⟩ := itemsI (K := X.K) r e1
    by_cases hz : ns.isEmpty = true
    · rw [if_pos hz] at e2; cases e2
    · rw [if_neg hz] at e2
      cases e2
      have hne : ns ≠ [] := fun z => hz (by rw [z]; rfl)
      obtain ⟨m1, m2⟩ := mxI_spec ns hne
      refine ⟨p, ns, rfl, h, List.length_pos_iff.mpr hne, fun m h1 h2 => ?_⟩
      have : m = mxI ns := by
        have := m2 m h1
        have := h2 _ m1
        omega
      subst this
      exact q _ _ _ HE.refl (.int _)
theorem b_minS (hc : X.calm = true) : CallR X (.builtin "min") (rDs bMinS) := (cr_minA hc).imp fun x H Q ⟨S, ds, d, La, hn, rs, e, q⟩ => by
  match ds, e with
  | [a], e =>
    obtain ⟨v, rfl, r⟩ := rs.i1
    obtain ⟨ns, e1, e2⟩ := Option.bind_eq_some_iff.mp (show ((a.items.bind intL).bind fun ns => if ns.isEmpty = true then none else some (D.int (mnI ns))) = some d from e)
    obtain ⟨p, rfl, h⟩ := itemsI (K := X.K) r e1
    by_cases hz : ns.isEmpty = true
    · rw [if_pos hz] at e2; cases e2
    · rw [if_neg hz] at e2
      cases e2
      have hne : ns ≠ [] := fun z => hz (by rw [z]; rfl)
      obtain ⟨m1, m2⟩ := mnI_spec ns hne
      refine ⟨p, ns, rfl, h, List.length_pos_iff.mpr hne, fun m h1 h2 => ?_⟩
      have : m = mnI ns := by
        have := m2 m h1
        have := h2 _ m1
        omega
      subst this
      exact q _ _ _ HE.refl (.int _)
theorem b_sumS (hc : X.calm = true) : CallR X (.builtin "sum") (rDs bSumS) := (cr_sumA hc).imp fun x H Q ⟨S, ds, d, La, hn, rs, e, q⟩ => by
  match ds, e with
  | [a], e =>
    obtain ⟨v, rfl, r⟩ := rs.i1
    obtain ⟨ns, e1, e2⟩ := Option.map_eq_some_iff.mp (show ((a.items.bind intL).map fun ns => D.int ns.sum) = some d from e)
    subst e2
    obtain ⟨p, rfl, h⟩ := itemsI (K := X.K) r e1
    exact ⟨p, ns, rfl, h, q _ _ _ HE.refl (.int _)⟩
end
end DL
set_option Elab.async false
set_option linter.all false
set_option maxRecDepth 100000
set_option maxHeartbeats 4000000
/-! DLA: writing into lists that stand in an own list. -/
namespace DL
open PySem PySem.Spec PyProof.Rows L2

section
variable {S : Sr} {W : Addr → Prop} {H0 H H' : Hp} {σ : L2.St} {δ : Ev}
/-- a list of a slot's own things is written -/
theorem RS.wrT {i : Nat} {d0 d1 : D} {b : Addr} {us us' : List V} {v : V} {L L' : List Addr} (r : RS S W H0 H σ δ) (hi : δ[i]? = some (.ow d0)) (hv : σ[i]? = some (some v)) (rp0 : Rp S H v d0 L) (hb : b ∈ L) (hH : H b = some (.lst us))
    (hn : Rp S (upd H b (.lst us')) v d1 L') (nd : L'.Nodup) (sub : ∀ c ∈ L', c ∈ L) : RS S W H0 (upd H b (.lst us')) σ (δ.set i (.ow d1)) := by
  obtain ⟨Λ, h, h2⟩ := r.sl
  obtain ⟨v', e1, rp⟩ := h i _ (gt_ow hi)
  rw [hv] at e1
  cases e1
  have eL := rp.uniq rp0
  obtain ⟨ndi, hw⟩ := h2 i _ hi
  rw [eL] at ndi hw
  have wb : W b := (hw b hb).1
  have ilt : i < δ.length := gt_lt (gt_ow hi)
  refine ⟨by simp [r.len], r.he.trans (HE.write hH wb), r.wA, r.wn, upN Λ i L', fun j d e => ?_, fun j d e => ?_⟩
  · rw [gt_set] at e
    by_cases hij : i = j
    · subst hij
      rw [if_pos rfl, if_pos ilt] at e
      cases e
      rw [upN_same]
      exact ⟨_, hv, hn⟩
    · rw [if_neg hij] at e
      rw [upN_ne (Ne.symm hij)]
      obtain ⟨w, e1, e2⟩ := h j d e
      exact ⟨w, e1, e2.ext (HE.writeN hH) fun c hc z => (hw b hb).2 j d (Ne.symm hij) e (z ▸ hc)⟩
  · rcases set_ow e with ⟨rfl, es⟩ | ⟨hj, e⟩
    · rw [upN_same]
      refine ⟨nd, fun c hc => ⟨(hw c (sub c hc)).1, fun k e' hk hg => ?_⟩⟩
      rw [upN_ne hk]
      rw [gt_set, if_neg (Ne.symm hk)] at hg
      exact (hw c (sub c hc)).2 k e' hk hg
    · rw [upN_ne hj]
      obtain ⟨n, w⟩ := h2 j d e
      refine ⟨n, fun c hc => ⟨(w c hc).1, fun k e' hk hg => ?_⟩⟩
      by_cases hki : k = i
      · subst hki
        rw [upN_same]
        intro z
        have := sub c z
        rw [← eL] at this
        exact (w c hc).2 k _ hk (gt_ow hi) this
      · rw [upN_ne hki]
        rw [gt_set, if_neg (Ne.symm hki)] at hg
        exact (w c hc).2 k e' hk hg
/-- the j-th of some things is a list: it is written, the others stay -/
theorem Rps.setIn {es es' : List D} {us us' : List V} {b : Addr} : ∀ {vs : List V} {ds : List D} {L : List Addr} (j : Nat), Rps S H vs ds L → L.Nodup → ds[j]? = some (.lst es) → vs[j]? = some (.ref b) → H b = some (.lst us) →
    Rps S (upd H b (.lst us')) us' es' [] → lfs es = true → Rps S (upd H b (.lst us')) vs (ds.set j (.lst es')) L
  | v :: vs, d :: ds, L, 0, r, nd, hd, hv, hH, hn, hl => by
    cases hd
    cases hv
    cases r with
    | @cons _ _ _ _ L1 L2 r rs =>
      cases r with
      | lst h n rs' =>
        have hL := rs'.nils hl
        subst hL
        have nd' := List.nodup_cons.mp (show (b :: L2).Nodup from nd)
        rw [List.set_cons_zero]
        exact .cons (L := [b]) (.lst upd_same n hn) (rs.ext (HE.writeN hH) fun c hc z => nd'.1 (z ▸ hc))
  | v :: vs, d :: ds, L, j + 1, r, nd, hd, hv, hH, hn, hl => by
    cases r with
    | @cons _ _ _ _ L1 L2 r rs =>
      have nd' := List.nodup_append.mp nd
      have hb : b ∈ L2 := by
        obtain ⟨w, L3, q1, q2, q3⟩ := rs.get (show ds[j]? = some (.lst es) from hd)
        rw [show vs[j]? = some (.ref b) from hv] at q1
        cases q1
        cases q2 with
        | lst h n rs' => exact q3 b List.mem_cons_self
      rw [List.set_cons_succ]
      exact .cons (r.ext (HE.writeN hH) fun c hc z => nd'.2.2 c hc b hb z) (rs.setIn j nd'.2.1 hd hv hH hn hl)
  | [], [], _, _, _, _, hd, _, _, _, _ => by simp at hd
  | [], _ :: _, _, _, r, _, _, _, _, _, _ => by cases r
  | _ :: _, [], _, _, r, _, _, _, _, _, _ => by cases r
end
/-- x[k][l] = e, x a list of lists -/
def sSub2 (i : Nat) (fk fl f : FE) : FS := fun δ => (f δ).bd fun d => (fk δ).bd fun k => (fl δ).bd fun l => match δ[i]?, k, l with
  | some (.ow (.lst ds)), .int n, .int m => M.of ((ixN ds.length n).bind fun j => match ds[j]? with
    | some (.lst es) => if d.lf = true ∧ lfs es = true then (ixN es.length m).map fun j2 => Out.nx (δ.set i (.ow (.lst (ds.set j (.lst (es.set j2 d)))))) else none
    | _ => none)
  | _, _, _ => M.no
section
variable {X : Cx}
theorem ds_sub2 {i : Nat} {x : Str} {k l e : Expr} {fk fl f : FE} {p ipos spos : Pos} (hi : X.N[i]? = some x) (hv : Vis X.env.scope x) (hk : DE X k fk) (hl : DE X l fl) (he : DE X e f) (hp : PlainIx k := by intro _ _; rfl)
    (ha : ∀ v, assign (.Subscript (.Subscript (.Name x p) k ipos) l spos) X.env v = (do
      let ov ← holding [v] (eval (.Subscript (.Name x p) k ipos) X.env)
      let iv ← holding [v, ov] (eval l X.env)
      standAt spos
      holding [v, ov, iv] (setItem ov iv v)
      release [v, ov, iv] []) := by intro _; rfl)
    (hs : swapsWithSole [.Subscript (.Subscript (.Name x p) k ipos) l spos] e pos.line X.env = pure false := by rfl) (hw : swappedStores [.Subscript (.Subscript (.Name x p) k ipos) l spos] e X.env = pure none := by rfl)
    (h1 : (assignEach [.Subscript (.Subscript (.Name x p) k ipos) l spos] X.env).map (·.2) = [assign (.Subscript (.Subscript (.Name x p) k ipos) l spos) X.env] := by rfl)
    (hd : (x == ("__debug__" : Str)) = false := by decide) (hcd : (x == ("__classdict__" : Str)) = false := by decide) : DS X (.Assign [.Subscript (.Subscript (.Name x p) k ipos) l spos] e pos) (sSub2 i fk fl f) :=
  (ps_asg he (pg_sub (pe_ix ix_list (pe_var hi hv hd hcd) hk hp) hl set_list ha) hs hw h1).imp fun σ H Q ⟨S, W, H0, δ, st, o, st', rs, so, e, q⟩ => by
  obtain ⟨d, s1, ea, e⟩ := bd_inv e
  obtain ⟨kd, s2, eb, e⟩ := bd_inv e
  obtain ⟨ld, s3, ec, e⟩ := bd_inv e
  cases ei : δ[i]? with
  | none => rw [ei] at e; cases e
  | some sl =>
    rw [ei] at e
    match sl, kd, ld, e with
    | .ow (.lst ds), .int n, .int m, e =>
      obtain ⟨e1, e2⟩ := of_inv e
      clear e
      subst e2
      obtain ⟨j, e3, e4⟩ := Option.bind_eq_some_iff.mp e1
      clear e1
      cases ej : ds[j]? with
      | none => rw [ej] at e4; cases e4
      | some dj =>
        rw [ej] at e4
        match dj, e4 with
        | .lst es, e4 =>
          have e4 : (if d.lf = true ∧ lfs es = true then (ixN es.length m).map fun j2 => Out.nx (δ.set i (.ow (.lst (ds.set j (.lst (es.set j2 d)))))) else none) = some o := e4
          by_cases hl : d.lf = true ∧ lfs es = true
          · rw [if_pos hl] at e4
            obtain ⟨j2, e5, e6⟩ := Option.map_eq_some_iff.mp e4
            subst e6
            refine ⟨S, δ, st, d, s1, rs.rs, so, ea, fun v H1 L1 x1 so1 r1 => ?_⟩
            have hL := r1.nil hl.1
            subst hL
            obtain ⟨a, vs, L, hσ, hH, nh, rr, nd⟩ := (rs.ext x1).own ei
            refine ⟨.ref a, hσ, S, δ, s1, _, _, (rs.ext x1).rs, so1, eb, fun w H2 L2' x2 so2 r2 => ?_⟩
            obtain ⟨rfl, rfl⟩ := r2.iint
            have hH2 : H2 a = some (.lst vs) := x2.lst _ _ (fun z => nh (z ▸ S.hA)) hH
            have rr2 := rr.extS x2
            obtain ⟨u, L3, hu, ru, hL3⟩ := rr2.get ej
            obtain ⟨b, ws, L4, rfl, hb, nb, rb, rfl⟩ := ru.ilst
            have hL4 := rb.nils hl.2
            subst hL4
            have bL : b ∈ L := hL3 b List.mem_cons_self
            refine ⟨a, vs, n, .ref b, rfl, rfl, .inl (.inl hH2), ?_, S, δ, s2, _, _, (rs.ext (x1.trans x2)).rs, so2, ec, fun w2 H3 L5 x3 so3 r3 => ?_⟩
            · show (ixN vs.length n).bind (fun j => vs[j]?) = _
              rw [rr2.len, e3]; exact hu
            obtain ⟨rfl, rfl⟩ := r3.iint
            have hH3 : H3 a = some (.lst vs) := x3.lst _ _ (fun z => nh (z ▸ S.hA)) hH2
            have hb3 : H3 b = some (.lst ws) := x3.lst _ _ (fun z => nb (z ▸ S.hA)) hb
            have rr3 := rr2.extS x3
            have rb3 := rb.extS x3
            have r13 := (r1.extS x2).extS x3
            refine ⟨b, ws, m, j2, rfl, rfl, hb3, by rw [rb.len]; exact e5, ?_⟩
            have nd' := List.nodup_cons.mp nd
            have hab : a ≠ b := fun z => nd'.1 (z ▸ bL)
            have rn : Rps S (upd H3 b (.lst (ws.set j2 v))) (ws.set j2 v) (es.set j2 d) [] := (Rps.set r13 j2 rb3).ext (HE.writeN hb3) fun _ z => nomatch z
            have rt := rr3.setIn (us' := ws.set j2 v) (es' := es.set j2 d) j nd'.2 ej hu hb3 rn hl.2
            exact q σ _ ((rs.ext ((x1.trans x2).trans x3)).wrT ei hσ (.lst hH3 nh rr3) (List.mem_cons_of_mem _ bL) hb3 (.lst (by rw [upd_ne hab]; exact hH3) nh rt) nd (fun c hc => hc)) (so3.wr nb)
          · rw [if_neg hl] at e4; cases e4
        | .non, e4 => cases e4
        | .bl _, e4 => cases e4
        | .int _, e4 => cases e4
        | .str _, e4 => cases e4
        | .tup _, e4 => cases e4
        | .src, e4 => cases e4
        | .dct _, e4 => cases e4
        | .tupk _, e4 => cases e4
end
end DL
set_option Elab.async false
set_option linter.all false
set_option maxRecDepth 100000
set_option maxHeartbeats 4000000
/-! DLB: x in l for things of any depth. -/
namespace DL
open PySem PySem.Spec PyProof.Rows L2

def dInD (a b : D) : Option D := b.items.bind fun xs => if (dOk 8 a && xs.all (dOk 8)) = true then some (.bl (xs.any fun y => y.eqv a)) else none
def dNotInD (a b : D) : Option D := b.items.bind fun xs => if (dOk 8 a && xs.all (dOk 8)) = true then some (.bl (!xs.any fun y => y.eqv a)) else none
theorem pys_any {x : D} : ∀ (ds : List D), ((pys ds).any fun y => PyData.eqv y x.py) = ds.any fun y => y.eqv x
  | [] => rfl
  | d :: ds => by
    rw [pys, List.any_cons, List.any_cons, pys_any ds]
    rfl
section
variable {X : Cx}
theorem o_inD (hu : X.A.units + 64 < cLine) : OpR X (compareOp .In) (rD2 dInD) := by
  intro pins s σ H x y v u Q I rx ry ⟨S, a, b, d, La, Lb, hn, ra, rb, e, q⟩
  obtain ⟨ds, e1, e2⟩ := Option.bind_eq_some_iff.mp (show (b.items.bind fun xs => if (dOk 8 a && xs.all (dOk 8)) = true then some (D.bl (xs.any fun y => y.eqv a)) else none) = some d from e)
  by_cases hk : (dOk 8 a && ds.all (dOk 8)) = true
  · rw [if_pos hk] at e2
    cases e2
    rw [Bool.and_eq_true] at hk
    obtain ⟨h2, h1⟩ := hk
    have h1' := List.all_eq_true.mp h1
    obtain ⟨p, vs, L', rfl, ho, rr⟩ := rb.items e1
    obtain ⟨bs, q2⟩ := Dp.reads (X := X) I a.py x v (ra.dp 8 h2) rx
    cases ry
    have hdep := pys_depth h1'
    have q' := q (.bl ((pys ds).any fun y => PyData.eqv y a.py)) H [] HE.refl (by rw [pys_any]; exact .bl _)
    have hz : ∃ its : List Value, Vals vs its ∧ (s.heap.IsList p its.toArray ∨ s.heap.IsTuple p its.toArray) := by
      rcases ho with ho | ho
      · obtain ⟨its, rv, hl, _⟩ := I.list (.inl ho : SqL X.K H p vs)
        exact ⟨its, rv, .inl hl.isList⟩
      · obtain ⟨its, rv, ht, _⟩ := I.tuple (.inl ho : SqT X.K H p vs)
        exact ⟨its, rv, .inr ht⟩
    obtain ⟨its, rv, hl⟩ := hz
    obtain ⟨as, q1⟩ := Dp.readsAll (X := X) I (pys ds) vs its (rr.dp 8 h1') rv
    have ip : ∀ y, y ∈ its.toArray → SeqAt.EqAt X.A.in1 s y v (PyData.eqv (SeqAt.readOf s.heap y) a.py) := SeqAt.items_plain (A := X.A) (vs := its.toArray) (by simpa using q1) q2 (pys_plain h1') (PyData.plain_of_canLay0 _ (dOk_ok 8 a h2).1) (by omega)
    have ap := SeqAt.any_plain (s := s) (vs := its.toArray) (xs := pys ds) (as := as) (d := a.py) (by simpa using q1) (pys_plain h1')
    rcases hl with hl | hl
    · exact PySem.SeqAt.in_listAt (fun y => PyData.eqv (SeqAt.readOf s.heap y) a.py) hl ip (by rw [ap]; exact ⟨.bl _, H, I, rfl, q'⟩)
    · exact PySem.SeqAt.in_tupleAt (fun y => PyData.eqv (SeqAt.readOf s.heap y) a.py) hl ip (by rw [ap]; exact ⟨.bl _, H, I, rfl, q'⟩)
  · rw [if_neg hk] at e2; cases e2
theorem o_notInD (hu : X.A.units + 64 < cLine) : OpR X (compareOp .NotIn) (rD2 dNotInD) := by
  intro pins s σ H x y v u Q I rx ry ⟨S, a, b, d, La, Lb, hn, ra, rb, e, q⟩
  obtain ⟨ds, e1, e2⟩ := Option.bind_eq_some_iff.mp (show (b.items.bind fun xs => if (dOk 8 a && xs.all (dOk 8)) = true then some (D.bl (!xs.any fun y => y.eqv a)) else none) = some d from e)
  by_cases hk : (dOk 8 a && ds.all (dOk 8)) = true
  · rw [if_pos hk] at e2
    cases e2
    rw [Bool.and_eq_true] at hk
    obtain ⟨h2, h1⟩ := hk
    have h1' := List.all_eq_true.mp h1
    obtain ⟨p, vs, L', rfl, ho, rr⟩ := rb.items e1
    obtain ⟨bs, q2⟩ := Dp.reads (X := X) I a.py x v (ra.dp 8 h2) rx
    cases ry
    have hdep := pys_depth h1'
    have q' := q (.bl (!(pys ds).any fun y => PyData.eqv y a.py)) H [] HE.refl (by rw [pys_any]; exact .bl _)
    have hz : ∃ its : List Value, Vals vs its ∧ (s.heap.IsList p its.toArray ∨ s.heap.IsTuple p its.toArray) := by
      rcases ho with ho | ho
      · obtain ⟨its, rv, hl, _⟩ := I.list (.inl ho : SqL X.K H p vs)
        exact ⟨its, rv, .inl hl.isList⟩
      · obtain ⟨its, rv, ht, _⟩ := I.tuple (.inl ho : SqT X.K H p vs)
        exact ⟨its, rv, .inr ht⟩
    obtain ⟨its, rv, hl⟩ := hz
    obtain ⟨as, q1⟩ := Dp.readsAll (X := X) I (pys ds) vs its (rr.dp 8 h1') rv
    have ip : ∀ y, y ∈ its.toArray → SeqAt.EqAt X.A.in1 s y v (PyData.eqv (SeqAt.readOf s.heap y) a.py) := SeqAt.items_plain (A := X.A) (vs := its.toArray) (by simpa using q1) q2 (pys_plain h1') (PyData.plain_of_canLay0 _ (dOk_ok 8 a h2).1) (by omega)
    have ap := SeqAt.any_plain (s := s) (vs := its.toArray) (xs := pys ds) (as := as) (d := a.py) (by simpa using q1) (pys_plain h1')
    rcases hl with hl | hl
    · exact PySem.SeqAt.notIn_listAt (fun y => PyData.eqv (SeqAt.readOf s.heap y) a.py) hl ip (by rw [ap]; exact ⟨.bl _, H, I, rfl, q'⟩)
    · exact PySem.SeqAt.notIn_tupleAt (fun y => PyData.eqv (SeqAt.readOf s.heap y) a.py) hl ip (by rw [ap]; exact ⟨.bl _, H, I, rfl, q'⟩)
  · rw [if_neg hk] at e2; cases e2
end
end DL
set_option Elab.async false
set_option linter.all false
set_option maxRecDepth 100000
set_option maxHeartbeats 4000000
/-! DLC: comprehensions with two loops as new lists. -/
namespace DL
open PySem PySem.Spec PyProof.Rows L2
theorem tLc2F_imp {h h1 : FI} {vs vs1 : List Nat} {g g1 : D → Ev → Option Ev} {tt tt1 : Ev → M Bool} {te : FE} : ∀ σ H Q, tF (eLc2 h vs g tt h1 vs1 g1 tt1 te) σ H Q → tLc2 (tI h) (tGd vs g) (tBo tt) (tI h1) (tGd vs1 g1) (tBo tt1) (tF te) vs vs1 σ H Q := fun σ H Q ⟨S, δ, st, d, st', rs, so, e, q⟩ => by
  obtain ⟨ds, s1, eh, e⟩ := bd_inv e
  by_cases hz : ds.length ≤ 1000
  rotate_left
  · rw [if_neg hz] at e; cases e
  rw [if_pos hz] at e
  obtain ⟨all, s2, ec, e⟩ := bd_inv e
  obtain ⟨e1, e2⟩ := ret_inv e
  subst e1 e2
  refine ⟨S, δ, st, ds, s1, rs, so, eh, fun J H1 La x1 so1 wk Dl nD => ?_⟩
  have nA : Dl ≠ S.dA := fun z => so1.tr _ S.hA (z ▸ nD)
  have nq : Dl ≠ S.q := fun z => so1.tr _ S.hQ (z ▸ nD)
  have rs1 : Rs (S.hide Dl) H1 σ δ := (rs.extS x1).hide fun xs z => by rw [nD] at z; cases z
  have laA : ∀ b, b = S.dA → b ∉ La := fun b e hb => (wk.la b hb).1 (e ▸ S.hA)
  refine ⟨fun i m H => m = ds.length - i ∧ i ≤ ds.length ∧ ∃ acc accD L sti ys, H Dl = some (.lst acc) ∧ Rps (S.hide Dl) H acc accD L ∧ L.Nodup ∧ (∀ a ∈ L, H1 a = none) ∧ acc.length ≤ i * 1000 ∧ Ext S H1 H ∧ SrcOk (S.hide Dl) H sti ∧ cLp2 vs g tt (inLc h1 vs1 g1 tt1 te) δ (ds.drop i) sti = some (ys, st') ∧ accD ++ ys = all, ⟨ds.length, rfl, Nat.zero_le _, [], [], [], s1, all, upd_same, .nil, List.nodup_nil, (fun _ z => nomatch z), Nat.zero_le _, HE.refl.out nD, (so1.ext0 (HE.fresh nD)).hide (by rw [upd_same]; exact fun z => nomatch z), ec, rfl⟩, ?_⟩
  rintro i m H2 ⟨rfl, hi, acc, accD, L, sti, ys, hD, ra, nL, fL, hl, x2, so2, ec2, eall⟩
  have x2' : HE (fun b => b ∉ La) H1 H2 := x2.mono laA
  by_cases hlt : i < ds.length
  · refine .inr ⟨wk.go i H2 x2' hlt, fun H' => (fun i m H => m = ds.length - i ∧ i ≤ ds.length ∧ ∃ acc accD L sti ys, H Dl = some (.lst acc) ∧ Rps (S.hide Dl) H acc accD L ∧ L.Nodup ∧ (∀ a ∈ L, H1 a = none) ∧ acc.length ≤ i * 1000 ∧ Ext S H1 H ∧ SrcOk (S.hide Dl) H sti ∧ cLp2 vs g tt (inLc h1 vs1 g1 tt1 te) δ (ds.drop i) sti = some (ys, st') ∧ accD ++ ys = all) (i + 1) (ds.length - (i + 1)) H', fun H' hN => ⟨ds.length - (i + 1), by omega, hN⟩, fun x H3 y => ?_⟩
    obtain ⟨d, Ld, hd, x3, rd, hLd⟩ := wk.yld i H2 x H3 x2' so2.show'.tr hlt y
    have hdrop : ds.drop i = d :: ds.drop (i + 1) := by
      have e1 := List.drop_eq_getElem_cons hlt
      have e2 : ds[i] = d := by
        have := List.getElem?_eq_getElem hlt
        rw [this] at hd
        exact Option.some.inj hd
      rw [e1, e2]
    rw [hdrop, cLp2] at ec2
    obtain ⟨δ1, t1, eg0, ec3⟩ := bd_inv ec2
    obtain ⟨eg, et⟩ := of_inv eg0
    clear eg0 ec2
    subst et
    obtain ⟨b, t2, eb, ec2⟩ := bd_inv ec3
    clear ec3
    have x13 : Ext S H1 H3 := x2.trans x3.up0
    have so3 : SrcOk (S.hide Dl) H3 t1 := so2.ext0 x3
    have hD3 : H3 Dl = some (.lst acc) := x3.lst _ _ (fun z => z) hD
    refine ⟨S.hide Dl, wipeE δ vs, d, Ld, δ1, (rs1.extS (S := S.hide Dl) x13).wipe vs, rd.hide fun a ha z => ?_, eg, fun σ2 o2 l2 rs2 => ⟨wipe_eq o2 l2, S.hide Dl, δ1, t1, b, t2, rs2, so3, eb, fun H4 x4 so4 => ?_⟩⟩
    · obtain ⟨_, xs, w⟩ := wk.la a (hLd a ha)
      rw [z, nD] at w
      cases w
    have hD4 : H4 Dl = some (.lst acc) := x4.lst _ _ nA hD3
    have ra4 : Rps (S.hide Dl) H4 acc accD L := (ra.ext0 x3).extS x4
    have x14 : Ext S H1 H4 := x13.trans x4
    cases b with
    | false =>
      rw [if_neg Bool.false_ne_true] at ec2
      refine iteF ?_
      exact ⟨rfl, hlt, acc, accD, L, t2, ys, hD4, ra4, nL, fL, by omega, x14, so4, ec2, eall⟩
    | true =>
      rw [if_pos rfl] at ec2
      refine iteT ?_
      obtain ⟨iy, t3, ei, ec4⟩ := bd_inv ec2
      obtain ⟨zs, t4, er, ec5⟩ := bd_inv ec4
      obtain ⟨e1, e2⟩ := ret_inv ec5
      clear ec2 ec4 ec5
      subst e1 e2
      obtain ⟨ds1, u1, eh1, ei⟩ := bd_inv ei
      by_cases hz1 : ds1.length ≤ 1000
      rotate_left
      · rw [if_neg hz1] at ei; cases ei
      rw [if_pos hz1] at ei
      refine ⟨S.hide Dl, δ1, t2, ds1, u1, rs2.extS x4, so4, eh1, fun J1 H5 La1 x5 so5 wk1 => ?_⟩
      have hD5 : H5 Dl = some (.lst acc) := x5.lst _ _ nA hD4
      have ra5 : Rps (S.hide Dl) H5 acc accD L := ra4.extS x5
      have x15 : Ext S H1 H5 := x14.trans x5
      have rs5 : Rs (S.hide Dl) H5 σ2 δ1 := (rs2.extS x4).extS x5
      have laA1 : ∀ b, (b = S.dA ∨ b = Dl) → b ∉ La1 := fun b e hb => (wk1.la b hb).1 (e.elim (fun z => .inl (z ▸ S.hA)) .inr)
      refine ⟨fun j k H => k = ds1.length - j ∧ j ≤ ds1.length ∧ ∃ acc accD L stj yj, H Dl = some (.lst acc) ∧ Rps (S.hide Dl) H acc accD L ∧ L.Nodup ∧ (∀ a ∈ L, H1 a = none) ∧ acc.length ≤ i * 1000 + j ∧ Ext S H1 H ∧ HE (fun b => b = S.dA ∨ b = Dl) H5 H ∧ SrcOk (S.hide Dl) H stj ∧ cLp vs1 g1 tt1 te δ1 (ds1.drop j) stj = some (yj, t3) ∧ accD ++ (yj ++ zs) = all, ⟨ds1.length, rfl, Nat.zero_le _, acc, accD, L, u1, iy, hD5, ra5, nL, fL, hl, x15, HE.refl, so5, ei, eall⟩, ?_⟩
      clear hD5 ra5 hD4 ra4 hD3 hD ra hl nL fL
      rintro j k H6 ⟨rfl, hj, acc, accD, L, stj, yj, hD6, ra6, nL, fL, hl6, x16, x56, so6, ej, eall6⟩
      have x56' : HE (fun b => b ∉ La1) H5 H6 := x56.mono laA1
      by_cases hjt : j < ds1.length
      · refine .inr ⟨wk1.go j H6 x56' hjt, fun H' => (fun j k H => k = ds1.length - j ∧ j ≤ ds1.length ∧ ∃ acc accD L stj yj, H Dl = some (.lst acc) ∧ Rps (S.hide Dl) H acc accD L ∧ L.Nodup ∧ (∀ a ∈ L, H1 a = none) ∧ acc.length ≤ i * 1000 + j ∧ Ext S H1 H ∧ HE (fun b => b = S.dA ∨ b = Dl) H5 H ∧ SrcOk (S.hide Dl) H stj ∧ cLp vs1 g1 tt1 te δ1 (ds1.drop j) stj = some (yj, t3) ∧ accD ++ (yj ++ zs) = all) (j + 1) (ds1.length - (j + 1)) H', fun H' hN => ⟨ds1.length - (j + 1), by omega, hN⟩, fun x' H7 y' => ?_⟩
        obtain ⟨d', Ld', hd', x7, rd', hLd'⟩ := wk1.yld j H6 x' H7 x56' so6.tr hjt y'
        have hdrop1 : ds1.drop j = d' :: ds1.drop (j + 1) := by
          have e1 := List.drop_eq_getElem_cons hjt
          have e2 : ds1[j] = d' := by
            have := List.getElem?_eq_getElem hjt
            rw [this] at hd'
            exact Option.some.inj hd'
          rw [e1, e2]
        rw [hdrop1, cLp] at ej
        obtain ⟨δ2, v1, eg0, ec3⟩ := bd_inv ej
        obtain ⟨eg1, et⟩ := of_inv eg0
        clear eg0 ej
        subst et
        obtain ⟨b', v2, eb', ec2⟩ := bd_inv ec3
        clear ec3
        have x17 : Ext S H1 H7 := x16.trans x7.up0
        have x57 : HE (fun b => b = S.dA ∨ b = Dl) H5 H7 := x56.trans x7.up0
        have so7 : SrcOk (S.hide Dl) H7 v1 := so6.ext0 x7
        have hD7 : H7 Dl = some (.lst acc) := x7.lst _ _ (fun z => z) hD6
        refine ⟨S.hide Dl, wipeE δ1 vs1, d', Ld', δ2, (rs5.extN x57).wipe vs1, rd', eg1, fun σ3 o3 l3 rs3 => ⟨wipe_eq o3 l3, S.hide Dl, δ2, v1, b', v2, rs3, so7, eb', fun H8 x8 so8 => ?_⟩⟩
        have hD8 : H8 Dl = some (.lst acc) := x8.lst _ _ nA hD7
        have ra8 : Rps (S.hide Dl) H8 acc accD L := (ra6.ext0 x7).extS x8
        have x18 : Ext S H1 H8 := x17.trans x8
        have x58 : HE (fun b => b = S.dA ∨ b = Dl) H5 H8 := x57.trans (x8.mono fun _ => .inl)
        cases b' with
        | false =>
          rw [if_neg Bool.false_ne_true] at ec2
          refine iteF ?_
          exact ⟨rfl, hjt, acc, accD, L, v2, yj, hD8, ra8, nL, fL, by omega, x18, x58, so8, ec2, eall6⟩
        | true =>
          rw [if_pos rfl] at ec2
          refine iteT ?_
          obtain ⟨yD, v3, ey, ec4⟩ := bd_inv ec2
          obtain ⟨ys', v4, er', ec5⟩ := bd_inv ec4
          obtain ⟨e1, e2⟩ := ret_inv ec5
          clear ec2 ec4 ec5
          subst e1 e2
          refine ⟨S.hide Dl, δ2, v2, yD, v3, rs3.extS x8, so8, ey, fun v H9 L9 x9 so9 r9 n9 f9 => ?_⟩
          have hD9 : H9 Dl = some (.lst acc) := x9.lst _ _ nA hD8
          have ra9 := (ra8.extS x9).append (Rps.one r9)
          have hsz : acc.length < 1000000 := by
            have h1 : i * 1000 ≤ 999 * 1000 := Nat.mul_le_mul_right _ (by omega)
            omega
          refine ⟨acc, hD9, Nat.lt_of_lt_of_le hsz (size_ok (Nat.le_refl _)), rfl, hjt, acc ++ [v], accD ++ [yD], _, v3, ys', upd_same, ra9.ext (HE.writeN hD9) (fun a ha z => (ra9.ne a ha).1 (.inr z)), ?_, fun a ha => (List.mem_append.mp ha).elim (fL a) fun z => x18.new a (f9 a z), by rw [List.length_append]; exact Nat.succ_le_succ hl6, (x18.trans x9).out nD, (x58.trans (x9.mono fun _ => .inl)).trans ((HE.writeN hD9).mono fun _ => .inr), so9.writeN nA nq, er', by rw [List.append_assoc]; exact eall6⟩
          refine List.nodup_append.mpr ⟨nL, n9, fun a ha b hb z => ?_⟩
          obtain ⟨_, xs, w⟩ := ra8.ne a ha
          rw [z, f9 b hb] at w
          cases w
      · have ed : ds1.drop j = [] := List.drop_eq_nil_of_le (by omega)
        rw [ed, cLp] at ej
        obtain ⟨e1, e2⟩ := ret_inv ej
        subst e1 e2
        refine .inl ⟨wk1.stop j H6 x56' (by omega), rfl, hlt, acc, accD, L, t3, zs, hD6, ra6, nL, fL, by omega, x16, so6, er, eall6⟩
  · have ei : ds.drop i = [] := List.drop_eq_nil_of_le (by omega)
    rw [ei, cLp2] at ec2
    obtain ⟨e1, e2⟩ := ret_inv ec2
    subst e1 e2
    rw [List.append_nil] at eall
    subst eall
    refine .inl ⟨wk.stop i H2 x2' (by omega), q (.ref Dl) H2 (Dl :: L) (x1.trans x2) so2.show' (.lst hD (fun z => so1.tr _ z nD) ra.show') (List.nodup_cons.mpr ⟨fun z => (ra.ne Dl z).1 (.inr rfl), nL⟩) fun a ha => ?_⟩
    rcases List.mem_cons.mp ha with rfl | ha
    · exact x1.new _ nD
    · exact x1.new _ (fL a ha)
theorem dg_sub {X : Cx} {e : Expr} {vs ws : List Nat} {g : D → Ev → Option Ev} (h : ∀ j ∈ vs, j ∈ ws) (p : DG X e vs g) : DG X e ws g := p.imp fun v σ H Q ⟨S, δ, d, L, δ', rs, r, e, q⟩ =>
  ⟨S, δ, d, L, δ', rs, r, e, fun σ' h1 h2 h3 => q σ' (fun j hj => h1 j fun z => hj (h j z)) h2 h3⟩
section
variable {X : Cx}
theorem df_lc2 {elt tg iter tg1 iter1 : Expr} {ifs ifs1 : List Expr} {scope : Scope} {own : List (Str × Nat)} {vs1 : List Nat} {pos : Pos} {h h1 : FI} {g g1 : D → Ev → Option Ev} {tt tt1 : Ev → M Bool} {te : FE} (hc : X.calm = true) (hN : X.N.Nodup) (hi : DI X tg iter h) (ok : BlkOk X.N X.env.scope scope own) (hv : ∀ i ∈ vs1, i ∈ own.map (·.2))
    (hg : ∀ (s : Shared) (H : Hp) (C : Addr) (cl : List (Str × Addr)) (fp : List Addr), DG (X.blk s H scope (compEnvC scope cl C X.env) fp) tg (own.map (·.2)) g) (ht : ∀ (s : Shared) (H : Hp) (C : Addr) (cl : List (Str × Addr)) (fp : List Addr), DTs (X.blk s H scope (compEnvC scope cl C X.env) fp) ifs tt)
    (hi1 : ∀ (s : Shared) (H : Hp) (C : Addr) (cl : List (Str × Addr)) (fp : List Addr), DI (X.blk s H scope (compEnvC scope cl C X.env) fp) tg1 iter1 h1)
    (hg1 : ∀ (s : Shared) (H : Hp) (C : Addr) (cl : List (Str × Addr)) (fp : List Addr), DG (X.blk s H scope (compEnvC scope cl C X.env) fp) tg1 vs1 g1) (ht1 : ∀ (s : Shared) (H : Hp) (C : Addr) (cl : List (Str × Addr)) (fp : List Addr), DTs (X.blk s H scope (compEnvC scope cl C X.env) fp) ifs1 tt1)
    (he : ∀ (s : Shared) (H : Hp) (C : Addr) (cl : List (Str × Addr)) (fp : List Addr), DF (X.blk s H scope (compEnvC scope cl C X.env) fp) elt te) (hs : ∀ x, foldedSetIterable iter X.env x = pure x := by intro _; rfl) (hs1 : ∀ env x, foldedSetIterable iter1 env x = pure x := by intro _ _; rfl) :
    DF X (.ListComp elt [⟨tg, iter, ifs, 0⟩, ⟨tg1, iter1, ifs1, 0⟩] scope pos) (eLc2 h (own.map (·.2)) g tt h1 vs1 g1 tt1 te) := (pe_lc2 hc hN hi ok hv hg ht hi1 hg1 ht1 he hs hs1).imp tLc2F_imp
theorem ds_setLc2 {i : Nat} {y : Str} {py : Pos} {elt tg iter tg1 iter1 : Expr} {ifs ifs1 : List Expr} {scope : Scope} {own : List (Str × Nat)} {vs1 : List Nat} {pos spos : Pos} {h h1 : FI} {g g1 : D → Ev → Option Ev} {tt tt1 : Ev → M Bool} {te : FE} (hc : X.calm = true) (hN : X.N.Nodup) (hy : X.N[i]? = some y) (hyl : X.env.scope.names.lookup y = some .local)
    (hsw : swapsWith (.ListComp elt [⟨tg, iter, ifs, 0⟩, ⟨tg1, iter1, ifs1, 0⟩] scope pos) (some (.Name y py)) spos.line X.env = pure true) (hi : DI X tg iter h) (ok : BlkOk X.N X.env.scope scope own) (hv : ∀ i ∈ vs1, i ∈ own.map (·.2))
    (hg : ∀ (s : Shared) (H : Hp) (C : Addr) (cl : List (Str × Addr)) (fp : List Addr), DG (X.blk s H scope (compEnvC scope cl C X.env) fp) tg (own.map (·.2)) g) (ht : ∀ (s : Shared) (H : Hp) (C : Addr) (cl : List (Str × Addr)) (fp : List Addr), DTs (X.blk s H scope (compEnvC scope cl C X.env) fp) ifs tt)
    (hi1 : ∀ (s : Shared) (H : Hp) (C : Addr) (cl : List (Str × Addr)) (fp : List Addr), DI (X.blk s H scope (compEnvC scope cl C X.env) fp) tg1 iter1 h1)
    (hg1 : ∀ (s : Shared) (H : Hp) (C : Addr) (cl : List (Str × Addr)) (fp : List Addr), DG (X.blk s H scope (compEnvC scope cl C X.env) fp) tg1 vs1 g1) (ht1 : ∀ (s : Shared) (H : Hp) (C : Addr) (cl : List (Str × Addr)) (fp : List Addr), DTs (X.blk s H scope (compEnvC scope cl C X.env) fp) ifs1 tt1)
    (he : ∀ (s : Shared) (H : Hp) (C : Addr) (cl : List (Str × Addr)) (fp : List Addr), DF (X.blk s H scope (compEnvC scope cl C X.env) fp) elt te) (hs : ∀ x, foldedSetIterable iter X.env x = pure x := by intro _; rfl) (hs1 : ∀ env x, foldedSetIterable iter1 env x = pure x := by intro _ _; rfl) :
    DS X (.Assign [.Name y py] (.ListComp elt [⟨tg, iter, ifs, 0⟩, ⟨tg1, iter1, ifs1, 0⟩] scope pos) spos) (sOwn i (eLc2 h (own.map (·.2)) g tt h1 vs1 g1 tt1 te)) := (ps_setLc2 hc hN hy hyl hsw hi ok hv hg ht hi1 hg1 ht1 he hs hs1).imp fun σ H Q w => tLc2F_imp σ H _ (own_imp σ H Q w)
end
end DL
set_option Elab.async false
set_option linter.all false
set_option maxRecDepth 100000
set_option maxHeartbeats 4000000
/-! DSim: the functions over data, reckoned out. -/
namespace DL
open PySem PySem.Spec PyProof.Rows L2

section
variable {α β : Type} {s : Src} {δ : Ev} {f g h : FE} {p q : Ev → M Bool} {i j : Nat} {d : D} {fs : Ev → M (List D)}
@[simp] theorem bd_ap (m : M α) (f : α → M β) : (m.bd f) s = (m s).bind fun p => f p.1 p.2 := by
  show (match m s with | none => none | some (a, s') => f a s') = _
  cases m s <;> rfl
@[simp] theorem ret_ap (a : α) : M.ret a s = some (a, s) := rfl
@[simp] theorem of_some (a : α) : M.of (some a) s = some (a, s) := rfl
@[simp] theorem of_none : M.of (none : Option α) s = none := rfl
@[simp] theorem no_ap : (M.no : M α) s = none := rfl
@[simp] theorem eVar_ap : eVar i δ s = M.of (gt δ i) s := rfl
@[simp] theorem eC_ap : eC d δ s = some (d, s) := rfl
@[simp] theorem e2_ap (o : D → D → Option D) : e2 o f g δ s = (f δ s).bind fun p => (g δ p.2).bind fun q => M.of (o p.1 q.1) q.2 := by simp [e2]
@[simp] theorem e1_ap (o : D → Option D) : e1 o f δ s = (f δ s).bind fun p => M.of (o p.1) p.2 := by simp [e1]
@[simp] theorem eAs0_ap : eAs0 δ s = some ([], s) := rfl
@[simp] theorem eAs_ap : eAs f fs δ s = (f δ s).bind fun p => (fs δ p.2).bind fun q => some (p.1 :: q.1, q.2) := by simp [eAs]
@[simp] theorem eTup_ap : eTup fs δ s = (fs δ s).bind fun p => M.of (if p.1.length ≤ 1000000 then some (.tup p.1) else none) p.2 := by simp [eTup]
@[simp] theorem eLst_ap : eLst fs δ s = (fs δ s).bind fun p => M.of (if p.1.length ≤ 1000000 then some (.lst p.1) else none) p.2 := by simp [eLst]
@[simp] theorem eIf_ap : eIf p f g δ s = (p δ s).bind fun k => if k.1 = true then f δ k.2 else g δ k.2 := by simp only [eIf, bd_ap]; congr; funext k; split <;> rfl
@[simp] theorem bOf_ap : bOf f δ s = (f δ s).bind fun p => M.of (match p.1 with | .bl k => some k | _ => none) p.2 := by
  simp only [bOf, bd_ap] <;> congr
@[simp] theorem bTr_ap : bTr f δ s = (f δ s).bind fun p => M.of (truD p.1) p.2 := by simp [bTr]
@[simp] theorem bAnd_ap : bAnd p q δ s = (p δ s).bind fun k => if k.1 = true then q δ k.2 else some (false, k.2) := by simp only [bAnd, bd_ap]; congr; funext k; split <;> rfl
@[simp] theorem bOr_ap : bOr p q δ s = (p δ s).bind fun k => if k.1 = true then some (true, k.2) else q δ k.2 := by simp only [bOr, bd_ap]; congr; funext k; split <;> rfl
@[simp] theorem bNot_ap : bNot p δ s = (p δ s).bind fun k => some (!k.1, k.2) := by simp [bNot]
@[simp] theorem bYes_ap : bYes δ s = some (true, s) := rfl
@[simp] theorem eAnd_ap : eAnd f g δ s = (f δ s).bind fun p => match p.1 with | .bl true => g δ p.2 | .bl false => some (.bl false, p.2) | _ => none := by
  simp only [eAnd, bd_ap]; congr; funext k; obtain ⟨d, t⟩ := k; cases d <;> first | rfl | (rename_i b; cases b <;> rfl)
@[simp] theorem eOr_ap : eOr f g δ s = (f δ s).bind fun p => match p.1 with | .bl true => some (.bl true, p.2) | .bl false => g δ p.2 | _ => none := by
  simp only [eOr, bd_ap]; congr; funext k; obtain ⟨d, t⟩ := k; cases d <;> first | rfl | (rename_i b; cases b <;> rfl)
@[simp] theorem eNot_ap : eNot f δ s = (f δ s).bind fun p => M.of (match p.1 with | .bl k => some (.bl (!k)) | _ => none) p.2 := by
  simp only [eNot, e1_ap] <;> congr
@[simp] theorem eCall_ap (o : List D → Option D) : eCall o fs δ s = (fs δ s).bind fun p => M.of (o p.1) p.2 := by simp [eCall]
@[simp] theorem eFn_ap (F : List D → M D) : eFn F fs δ s = (fs δ s).bind fun p => F p.1 p.2 := by simp [eFn]
@[simp] theorem eLf_ap : eLf f δ s = (f δ s).bind fun p => M.of (if p.1.lf = true then some p.1 else none) p.2 := by simp [eLf]
@[simp] theorem eRevT_ap : eRevT f δ s = (f δ s).bind fun p => M.of (match p.1 with | .tup xs => some (.tup xs.reverse) | _ => none) p.2 := by
  simp only [eRevT, e1_ap] <;> congr
@[simp] theorem eRevL_ap : eRevL f δ s = (f δ s).bind fun p => M.of (match p.1 with | .lst xs => some (.lst xs.reverse) | _ => none) p.2 := by
  simp only [eRevL, e1_ap] <;> congr
@[simp] theorem eCh_ap (o o' : D → D → Option D) : eCh o o' f g h δ s = (f δ s).bind fun x => (g δ x.2).bind fun y => (M.of (o x.1 y.1) y.2).bind fun z => match z.1 with
  | .bl true => (h δ z.2).bind fun u => M.of (o' y.1 u.1) u.2
  | .bl false => some (.bl false, z.2)
  | _ => none := by
  simp only [eCh, bd_ap]
  congr; funext x; congr; funext y; congr; funext z; obtain ⟨d, t⟩ := z; cases d <;> first | rfl | (rename_i b; cases b <;> first | rfl | (simp only [bd_ap]))
@[simp] theorem iOf_ap (o : List D → Option (List D)) : iOf o fs δ s = (fs δ s).bind fun p => M.of (o p.1) p.2 := by simp [iOf]
@[simp] theorem iSeq_ap : iSeq f δ s = (f δ s).bind fun p => M.of p.1.items p.2 := by simp [iSeq]
@[simp] theorem iSeqT_ap : iSeqT f δ s = (f δ s).bind fun p => M.of (lfT p.1) p.2 := by simp [iSeqT]

@[simp] theorem sNil_ap : sNil δ s = some (.nx δ, s) := rfl
@[simp] theorem sNo_ap : sNo δ s = none := rfl
@[simp] theorem sRet_ap : sRet f δ s = (f δ s).bind fun p => some (.rt p.1, p.2) := by simp [sRet]
@[simp] theorem sExp_ap : sExp f δ s = (f δ s).bind fun p => some (.nx δ, p.2) := by simp [sExp]
@[simp] theorem sSet_ap : sSet i f δ s = (f δ s).bind fun p => if p.1.lf = true then some (.nx (δ.set i (.rd p.1)), p.2) else none := by
  simp only [sSet, bd_ap]; congr; funext k; split <;> rfl
@[simp] theorem sOwn_ap : sOwn i f δ s = (f δ s).bind fun p => some (.nx (δ.set i (.ow p.1)), p.2) := by simp [sOwn]
@[simp] theorem sIf_ap (a b : FS) : sIf p a b δ s = (p δ s).bind fun k => if k.1 = true then a δ k.2 else b δ k.2 := by
  simp only [sIf, bd_ap]; congr; funext k; split <;> rfl
@[simp] theorem sSeq_ap (a b : FS) : sSeq a b δ s = (a δ s).bind fun o => match o.1 with | .nx δ1 => b δ1 o.2 | o1 => some (o1, o.2) := by
  simp only [sSeq, bd_ap]; congr; funext k; obtain ⟨o, t⟩ := k; cases o <;> rfl
theorem seq_nx {a b : FS} {δ1 : Ev} {s1 : Src} (h : a δ s = some (.nx δ1, s1)) : sSeq a b δ s = b δ1 s1 := by rw [sSeq_ap, h]; rfl
@[simp] theorem sTg_ap (g : D → Ev → Option Ev) : sTg f g δ s = (f δ s).bind fun p => (M.of (if p.1.lf = true then g p.1 δ else none) p.2).bind fun q => some (.nx q.1, q.2) := by simp [sTg]
@[simp] theorem sTl_ap (n : Nat) (gs : List D → Ev → Option Ev) : sTl f n gs δ s = (f δ s).bind fun p => (M.of (match p.1 with | .lst ds => if ds.length = n ∧ lfs ds = true then gs ds δ else none | _ => none) p.2).bind fun q => some (.nx q.1, q.2) := by
  simp only [sTl, bd_ap] <;> congr
@[simp] theorem sPar_ap : sPar i j fs δ s = (fs δ s).bind fun p => match p.1 with | [d, e] => if lfs [d, e] = true then some (.nx ((δ.set i (.rd d)).set j (.rd e)), p.2) else none | _ => none := by
  simp only [sPar, bd_ap]; congr; funext k; obtain ⟨d, t⟩ := k; exact match d with
  | [] => rfl
  | [_] => rfl
  | [x, y] => by
    by_cases h : lfs [x, y] = true
    · show (if lfs [x, y] = true then M.ret _ else M.no) t = if lfs [x, y] = true then _ else _
      rw [if_pos h, if_pos h]; rfl
    · show (if lfs [x, y] = true then M.ret _ else M.no) t = if lfs [x, y] = true then _ else _
      rw [if_neg h, if_neg h]; rfl
  | _ :: _ :: _ :: _ => rfl
@[simp] theorem sAug_ap (o : D → D → Option D) : sAug i o f δ s = (M.of (gt δ i) s).bind fun x => (f δ x.2).bind fun y => (M.of (o x.1 y.1) y.2).bind fun z => if z.1.lf = true then some (.nx (δ.set i (.rd z.1)), z.2) else none := by
  simp only [sAug, bd_ap]; congr; funext x; congr; funext y; congr; funext z; split <;> rfl
@[simp] theorem sApp_ap {ds : List D} (hd : δ[i]? = some (.ow (.lst ds))) : sApp i f δ s = (f δ s).bind fun p => if p.1.lf = true ∧ ds.length < 1000000 then some (.nx (δ.set i (.ow (.lst (ds ++ [p.1])))), p.2) else none := by
  simp only [sApp, hd, bd_ap]; congr; funext k; split <;> rfl
@[simp] theorem sAppM_ap {ds es : List D} (hd : δ[i]? = some (.ow (.lst ds))) (he : δ[j]? = some (.ow (.lst es))) : sAppM i j δ s = if ds.length < 1000000 then some (.nx ((δ.set j .no).set i (.ow (.lst (ds ++ [.lst es])))), s) else none := by
  simp only [sAppM, hd, he]; split <;> rfl
@[simp] theorem sFor_ap (h : FI) (tg : D → Ev → Option Ev) (body : FS) : sFor h tg body δ s = (h δ s).bind fun p => fLp tg body p.1 δ p.2 := by simp [sFor]
@[simp] theorem eLc_ap (h : FI) (vs : List Nat) (g : D → Ev → Option Ev) (tt : Ev → M Bool) (te : FE) : eLc h vs g tt te δ s = (h δ s).bind fun p => if p.1.length ≤ 1000000 then (cLp vs g tt te δ p.1 p.2).bind fun q => some (.lst q.1, q.2) else none := by
  simp only [eLc, bd_ap]; congr; funext k; split <;> simp
theorem run_rt {n : Nat} {g : FS} {ds : List D} {d : D} {s1 : Src} (h : g (ent n ds) s = some (.rt d, s1)) : run n g ds s = some (d, s1) := by
  simp only [run, bd_ap, h]; rfl
theorem run_nx {n : Nat} {g : FS} {ds : List D} {δ1 : Ev} {s1 : Src} (h : g (ent n ds) s = some (.nx δ1, s1)) : run n g ds s = some (.non, s1) := by
  simp only [run, bd_ap, h]; rfl
end
@[simp] theorem gt_nil (i : Nat) : gt [] i = none := rfl
@[simp] theorem gt_zero (a : Sl) (l : Ev) : gt (a :: l) 0 = a.d := rfl
@[simp] theorem gt_succ (a : Sl) (l : Ev) (n : Nat) : gt (a :: l) (n + 1) = gt l n := rfl
@[simp] theorem sl_rd (d : D) : (Sl.rd d).d = some d := rfl
@[simp] theorem sl_ow (d : D) : (Sl.ow d).d = some d := rfl
@[simp] theorem sl_no : (Sl.no).d = none := rfl
@[simp] theorem gN_ap (i : Nat) (d : D) (δ : Ev) : gN i d δ = some (δ.set i (.rd d)) := rfl
@[simp] theorem gs0_ap (δ : Ev) : gs0 [] δ = some δ := rfl
@[simp] theorem gsC_ap (g : D → Ev → Option Ev) (gs : List D → Ev → Option Ev) (d : D) (r : List D) (δ : Ev) : gsC g gs (d :: r) δ = (g d δ).bind (gs r) := rfl
@[simp] theorem gT_ap (n : Nat) (gs : List D → Ev → Option Ev) (ds : List D) (δ : Ev) : gT n gs (.tup ds) δ = if ds.length = n then gs ds δ else none := rfl
@[simp] theorem wipe0 (δ : Ev) : wipeE δ [] = δ := rfl
@[simp] theorem wipe1 (δ : Ev) (v : Nat) (vs : List Nat) : wipeE δ (v :: vs) = (wipeE δ vs).set v .no := rfl
@[simp] theorem lf_int (i : Int) : (D.int i).lf = true := rfl
@[simp] theorem lf_bl (i : Bool) : (D.bl i).lf = true := rfl
@[simp] theorem lf_str (i : Str) : (D.str i).lf = true := rfl
@[simp] theorem lf_non : (D.non).lf = true := rfl
@[simp] theorem lf_dct (i : List (Str × Str)) : (D.dct i).lf = true := rfl
@[simp] theorem lf_tup (ds : List D) : (D.tup ds).lf = lfs ds := by simp [D.lf]
@[simp] theorem lf_tupk (ds : List D) : (D.tupk ds).lf = lfs ds := by simp [D.lf]
@[simp] theorem lfs_nil : lfs [] = true := by simp [lfs]
@[simp] theorem lfs_cons (d : D) (ds : List D) : lfs (d :: ds) = (d.lf && lfs ds) := by simp [lfs]
@[simp] theorem lfs_app (ds es : List D) : lfs (ds ++ es) = (lfs ds && lfs es) := by
  induction ds with
  | nil => simp
  | cons d ds ih => simp [ih, Bool.and_assoc]
theorem lfs_map {α : Type} {f : α → D} (h : ∀ a, (f a).lf = true) : ∀ l : List α, lfs (l.map f) = true
  | [] => by simp
  | a :: l => by simp [h, lfs_map h l]
@[simp] theorem lfs_ints (l : List Int) : lfs (l.map D.int) = true := lfs_map (fun _ => rfl) l
@[simp] theorem tru_bl (b : Bool) : truD (.bl b) = some b := rfl
@[simp] theorem tru_int (i : Int) : truD (.int i) = some (i != 0) := rfl
@[simp] theorem items_tup (ds : List D) : (D.tup ds).items = some ds := rfl
@[simp] theorem items_lst (ds : List D) : (D.lst ds).items = some ds := rfl
@[simp] theorem items_tupk (ds : List D) : (D.tupk ds).items = some ds := rfl
@[simp] theorem lfT_tup (ds : List D) : lfT (.tup ds) = if lfs ds = true then some ds else none := rfl
@[simp] theorem lfT_tupk (ds : List D) : lfT (.tupk ds) = if lfs ds = true then some ds else none := rfl
@[simp] theorem add_int (i j : Int) : dAdd (.int i) (.int j) = some (.int (i + j)) := rfl
@[simp] theorem add_tup (x y : List D) : dAdd (.tup x) (.tup y) = if x.length + y.length ≤ 1000000 then some (.tup (x ++ y)) else none := rfl
@[simp] theorem iadd_int (i j : Int) : dIAdd (.int i) (.int j) = some (.int (i + j)) := rfl
@[simp] theorem sub_int (i j : Int) : dSub (.int i) (.int j) = some (.int (i - j)) := rfl
theorem mul_int {i j : Int} (h : mulC i j = true) : dMul (.int i) (.int j) = some (.int (i * j)) := if_pos h
theorem mulC_l {i j : Int} (h : -1000000 ≤ i ∧ i ≤ 1000000) : mulC i j = true := by
  unfold mulC
  rw [decide_eq_true (show i.natAbs < 2 ^ 64 by omega)]; rfl
theorem mulC_r {i j : Int} (h : -1000000 ≤ j ∧ j ≤ 1000000) : mulC i j = true := by
  unfold mulC
  rw [decide_eq_true (show j.natAbs < 2 ^ 64 by omega), Bool.or_true]; rfl
@[simp] theorem neg_int (i : Int) : dNeg (.int i) = some (.int (-i)) := rfl
@[simp] theorem lt_int (i j : Int) : dLt (.int i) (.int j) = some (.bl (decide (i < j))) := rfl
@[simp] theorem le_int (i j : Int) : dLe (.int i) (.int j) = some (.bl (decide (i ≤ j))) := rfl
@[simp] theorem gt_int (i j : Int) : dGt (.int i) (.int j) = some (.bl (decide (j < i))) := rfl
@[simp] theorem ge_int (i j : Int) : dGe (.int i) (.int j) = some (.bl (decide (j ≤ i))) := rfl
theorem eqv_int (i j : Int) : (D.int i).eqv (.int j) = decide (i = j) := by
  show PyData.eqv (.int i) (.int j) = _
  unfold PyData.eqv
  rw [Bool.beq_eq_decide_eq]
@[simp] theorem eq_int (i j : Int) : dEq (.int i) (.int j) = some (.bl (decide (i = j))) := by
  show (if (true && true) = true then some (D.bl ((D.int i).eqv (.int j))) else none) = _
  rw [eqv_int]; rfl
@[simp] theorem ne_int (i j : Int) : dNe (.int i) (.int j) = some (.bl (!decide (i = j))) := by
  show (if (true && true) = true then some (D.bl (!(D.int i).eqv (.int j))) else none) = _
  rw [eqv_int]; rfl
theorem eqv_bl (i j : Bool) : (D.bl i).eqv (.bl j) = decide (i = j) := by
  show PyData.eqv (.bool i) (.bool j) = _
  unfold PyData.eqv
  rw [Bool.beq_eq_decide_eq]
@[simp] theorem eq_bl (i j : Bool) : dEq (.bl i) (.bl j) = some (.bl (decide (i = j))) := by
  show (if (true && true) = true then some (D.bl ((D.bl i).eqv (.bl j))) else none) = _
  rw [eqv_bl]; rfl
@[simp] theorem ne_bl (i j : Bool) : dNe (.bl i) (.bl j) = some (.bl (!decide (i = j))) := by
  show (if (true && true) = true then some (D.bl (!(D.bl i).eqv (.bl j))) else none) = _
  rw [eqv_bl]; rfl
theorem eqv_str (x y : Str) : (D.str x).eqv (.str y) = (x == y) := by
  show PyData.eqv (.str x) (.str y) = _
  unfold PyData.eqv
  rfl
theorem dOk_str {x : Str} (n : Nat) (h : PyData.strOk x = true) : dOk n (.str x) = true := by cases n <;> exact h
theorem eq_str {x y : Str} (h : PyData.strOk x = true) (h2 : PyData.strOk y = true) : dEq (.str x) (.str y) = some (.bl (x == y)) := by
  rw [dEq, dOk_str _ h, dOk_str _ h2, eqv_str]; rfl
theorem eqv_tup (xs ys : List D) : (D.tup xs).eqv (.tup ys) = PyData.eqvAll (pys xs) (pys ys) := by
  show PyData.eqv (D.tup xs).py (D.tup ys).py = _
  rw [D.py, D.py, PyData.eqv]
theorem eqvAll_ints : ∀ xs ys : List Int, PyData.eqvAll (pys (xs.map .int)) (pys (ys.map .int)) = decide (xs = ys)
  | [], [] => rfl
  | [], y :: ys => by rw [List.map_nil, List.map_cons, pys, pys, PyData.eqvAll]; rfl
  | x :: xs, [] => by rw [List.map_nil, List.map_cons, pys, pys, PyData.eqvAll]; rfl
  | x :: xs, y :: ys => by
    rw [List.map_cons, List.map_cons, pys, pys, PyData.eqvAll, eqvAll_ints xs ys]
    have := eqv_int x y
    unfold D.eqv at this
    rw [this]
    by_cases h1 : x = y
    · subst h1
      by_cases h2 : xs = ys
      · subst h2; simp
      · simp [h2]
    · simp [h1]
theorem dOk_ints {n : Nat} (xs : List Int) : dOk (n + 1) (.tup (xs.map .int)) = true := by
  rw [dOk, List.all_map]
  exact List.all_eq_true.mpr fun x _ => by cases n <;> rfl
theorem eq_ints (xs ys : List Int) : dEq (.tup (xs.map .int)) (.tup (ys.map .int)) = some (.bl (decide (xs = ys))) := by
  unfold dEq
  rw [dOk_ints, dOk_ints, eqv_tup, eqvAll_ints]; rfl
theorem ne_ints (xs ys : List Int) : dNe (.tup (xs.map .int)) (.tup (ys.map .int)) = some (.bl (!decide (xs = ys))) := by
  unfold dNe
  rw [dOk_ints, dOk_ints, eqv_tup, eqvAll_ints]; rfl
@[simp] theorem ix_int (a : D) (i : Int) : dIx a (.int i) = a.items.bind fun xs => atI xs i := rfl
theorem at_nat {α : Type} {xs : List α} {j : Nat} {v : α} (h : xs[j]? = some v) : atI xs (j : Int) = some v := atI_nat h
theorem at_last {α : Type} (xs : List α) (v : α) : atI (xs ++ [v]) (-1) = some v := atI_last xs v
@[simp] theorem at0 {α : Type} (a : α) (l : List α) : atI (a :: l) 0 = some a := atI_nat (j := 0) rfl
@[simp] theorem at1 {α : Type} (a b : α) (l : List α) : atI (a :: b :: l) 1 = some b := atI_nat (j := 1) rfl
@[simp] theorem at2 {α : Type} (a b c : α) (l : List α) : atI (a :: b :: c :: l) 2 = some c := atI_nat (j := 2) rfl
@[simp] theorem at3 {α : Type} (a b c d : α) (l : List α) : atI (a :: b :: c :: d :: l) 3 = some d := atI_nat (j := 3) rfl
@[simp] theorem len_tup (xs : List D) : bLen [.tup xs] = some (.int xs.length) := rfl
@[simp] theorem len_lst (xs : List D) : bLen [.lst xs] = some (.int xs.length) := rfl
@[simp] theorem len_tupk (xs : List D) : bLen [.tupk xs] = some (.int xs.length) := rfl
@[simp] theorem abs_i (i : Int) : bAbs [.int i] = some (.int (if i < 0 then -i else i)) := rfl
@[simp] theorem max2_i (i j : Int) : bMax2 [.int i, .int j] = some (.int (if j > i then j else i)) := rfl
@[simp] theorem min2_i (i j : Int) : bMin2 [.int i, .int j] = some (.int (if j < i then j else i)) := rfl
@[simp] theorem min3_i (a b c : Int) : bMin3 [.int a, .int b, .int c] = some (.int (if b < a then (if c < b then c else b) else (if c < a then c else a))) := rfl
@[simp] theorem tup_lst (xs : List D) : bTup [.lst xs] = some (.tup xs) := rfl
@[simp] theorem tup_tup (xs : List D) : bTup [.tup xs] = some (.tup xs) := rfl
@[simp] theorem tupk_lst (xs : List D) : bTupk [.lst xs] = some (.tupk xs) := rfl
@[simp] theorem any_lst (xs : List D) : bAny [.lst xs] = (boolL xs).map fun bs => .bl (bs.any id) := rfl
@[simp] theorem all_lst (xs : List D) : bAll [.lst xs] = (boolL xs).map fun bs => .bl (bs.all id) := rfl
theorem boolL_map {α : Type} (f : α → Bool) : ∀ l : List α, boolL (l.map fun a => .bl (f a)) = some (l.map f)
  | [] => rfl
  | a :: l => by rw [List.map_cons, boolL, boolL_map f l]; rfl
theorem intL_map {α : Type} (f : α → Int) : ∀ l : List α, intL (l.map fun a => .int (f a)) = some (l.map f)
  | [] => rfl
  | a :: l => by rw [List.map_cons, intL, intL_map f l]; rfl
@[simp] theorem isi_tup (T : String) (ds : List D) : isiD T (.tup ds) = some (.bl (isTy "tuple" T)) := rfl
@[simp] theorem isi_tupk (T : String) (ds : List D) : isiD T (.tupk ds) = some (.bl (isTy "tuple" T)) := rfl
@[simp] theorem isi_int (T : String) (i : Int) : isiD T (.int i) = some (.bl (isTy "int" T)) := rfl
@[simp] theorem isi_str (T : String) (i : Str) : isiD T (.str i) = some (.bl (isTy "str" T)) := rfl
@[simp] theorem ty1 : isTy "tuple" "tuple" = true := by decide
@[simp] theorem ty2 : isTy "int" "int" = true := by decide
@[simp] theorem ty3 : isTy "int" "bool" = false := by decide
@[simp] theorem ty4 : isTy "str" "str" = true := by decide
theorem rg1_i (j : Int) : rg1 [.int j] = if j.natAbs ≤ 1000000 then some (rngD 0 j.toNat) else none := rfl
theorem rg2_i (i j : Int) : rg2 [.int i, .int j] = if i.natAbs ≤ 1000000 ∧ j.natAbs ≤ 1000000 then some (rngD i (j - i).toNat) else none := rfl
@[simp] theorem ent_eq (n : Nat) (ds : List D) : ent n ds = ds.map .rd ++ List.replicate (n - ds.length) .no := rfl
/-- loops that leave the source -/
theorem fLp_inv {tg : D → Ev → Option Ev} {body : FS} (I : Nat → Ev → Prop) {s : Src} : ∀ (ds : List D) (k : Nat) (δ : Ev), I k δ →
    (∀ (i : Nat) (d : D) (δ : Ev), ds[i]? = some d → I (k + i) δ → d.lf = true ∧ ∃ δ1 δ2, tg d δ = some δ1 ∧ body δ1 s = some (.nx δ2, s) ∧ I (k + i + 1) δ2) → ∃ δ', fLp tg body ds δ s = some (.nx δ', s) ∧ I (k + ds.length) δ'
  | [], k, δ, h, _ => ⟨δ, rfl, h⟩
  | d :: ds, k, δ, h, hs => by
    obtain ⟨hl, δ1, δ2, h1, h2, h3⟩ := hs 0 d δ rfl h
    obtain ⟨δ', h4, h5⟩ := fLp_inv I ds (k + 1) δ2 h3 fun i e δ he hi => by
      have := hs (i + 1) e δ (by simpa using he) (by rw [show k + (i + 1) = k + 1 + i by omega]; exact hi)
      rw [show k + (i + 1) + 1 = k + 1 + i + 1 by omega] at this
      exact this
    refine ⟨δ', ?_, by rw [List.length_cons, show k + (ds.length + 1) = k + 1 + ds.length by omega]; exact h5⟩
    rw [fLp]
    simp only [bd_ap, hl, if_true, h1, of_some, Option.bind_some, h2]
    exact h4
/-- comprehensions without draws -/
theorem cLp_map {vs : List Nat} {g : D → Ev → Option Ev} {tt : Ev → M Bool} {te : FE} {δ : Ev} {s : Src} {α : Type} (en : α → D) (f : α → D) : ∀ (l : List α), (∀ a ∈ l, ∃ δ1, g (en a) (wipeE δ vs) = some δ1 ∧ tt δ1 s = some (true, s) ∧ te δ1 s = some (f a, s)) →
    cLp vs g tt te δ (l.map en) s = some (l.map f, s)
  | [], _ => rfl
  | a :: l, h => by
    obtain ⟨δ1, h1, h2, h3⟩ := h a List.mem_cons_self
    rw [List.map_cons, cLp]
    simp only [bd_ap, h1, of_some, Option.bind_some, h2, if_true, h3, cLp_map en f l fun b hb => h b (List.mem_cons_of_mem _ hb), ret_ap, List.map_cons]
theorem rngD_map : ∀ (n : Nat) (lo : Int), rngD lo n = (List.range n).map fun i => D.int (lo + (i : Nat))
  | 0, _ => rfl
  | n + 1, lo => by
    rw [rngD, rngD_map n, List.range_succ_eq_map, List.map_cons, List.map_map]
    congr 1
    · simp
    · refine List.map_congr_left fun i _ => ?_
      show D.int (lo + 1 + (i : Int)) = D.int (lo + ((i + 1 : Nat) : Int))
      congr 1; omega
theorem lc_eq {h : FI} {vs : List Nat} {g : D → Ev → Option Ev} {tt : Ev → M Bool} {te : FE} {δ : Ev} {s s1 s2 : Src} {ds ys : List D} (h1 : h δ s = some (ds, s1)) (hl : ds.length ≤ 1000000) (hc : cLp vs g tt te δ ds s1 = some (ys, s2)) : eLc h vs g tt te δ s = some (.lst ys, s2) := by
  rw [eLc_ap, h1, Option.bind_some, if_pos hl, hc]; rfl
/-- what range(n) walks over -/
def rgs (n : Nat) : List D := (List.range n).map fun i => .int (i : Nat)
theorem rg1_n {n : Nat} (h : n ≤ 1000000) : rg1 [.int (n : Nat)] = some (rgs n) := by
  rw [rg1_i, if_pos (by omega), rngD_map, Int.toNat_natCast]
  congr 1
  exact List.map_congr_left fun i _ => by rw [Int.zero_add]
theorem rg1_s {n : Nat} (h : n < 1000000) : rg1 [.int ((n : Int) + 1)] = some (rgs (n + 1)) := rg1_n (n := n + 1) h
theorem rgs_len (n : Nat) : (rgs n).length = n := by simp [rgs]
theorem rgs_get {n i : Nat} (h : i < n) : (rgs n)[i]? = some (.int (i : Nat)) := by rw [rgs, List.getElem?_map, List.getElem?_range h]; rfl
theorem rgs_inv {n i : Nat} {d : D} (h : (rgs n)[i]? = some d) : i < n ∧ d = .int (i : Nat) := by
  have hi : i < n := by
    have := (List.getElem?_eq_some_iff.mp h).1
    rwa [rgs_len] at this
  rw [rgs_get hi] at h
  cases h
  exact ⟨hi, rfl⟩
/-- a comprehension over range(n) without draws -/
theorem cLp_rgs {vs : List Nat} {g : D → Ev → Option Ev} {tt : Ev → M Bool} {te : FE} {δ : Ev} {s : Src} (f : Nat → D) (n : Nat) (h : ∀ i, i < n → ∃ δ1, g (.int (i : Nat)) (wipeE δ vs) = some δ1 ∧ tt δ1 s = some (true, s) ∧ te δ1 s = some (f i, s)) :
    cLp vs g tt te δ (rgs n) s = some ((List.range n).map f, s) := cLp_map (fun i : Nat => D.int i) f _ fun i hi => h i (List.mem_range.mp hi)
theorem at_rg {α : Type} (f : Nat → α) {n j : Nat} (h : j < n) : atI ((List.range n).map f) (j : Int) = some (f j) := at_nat (by rw [List.getElem?_map, List.getElem?_range h]; rfl)
theorem at_rg_last {α : Type} (f : Nat → α) {n : Nat} : atI ((List.range (n + 1)).map f) (-1) = some (f n) := by
  rw [List.range_succ, List.map_append]; exact at_last _ _
end DL
set_option Elab.async false
set_option linter.all false
set_option maxRecDepth 100000
set_option maxHeartbeats 400000
/-! DI: rows and tables of numbers as data; more reckoning. -/
namespace DL
open PySem PySem.Spec PyProof.Rows L2

/-! ### rows and tables -/
def wI (w : List Int) : D := .tup (w.map .int)
def tB (T : List (List Int)) : D := .tup (T.map wI)
def el (r : List Int) (i : Nat) : Int := (r[i]?).getD 0
def ro (T : List (List Int)) (i : Nat) : List Int := (T[i]?).getD []
def tl (T : List (List Int)) (i j : Nat) : Int := el (ro T i) j
structure Sq (T : List (List Int)) (n : Nat) : Prop where
  len : T.length = n
  row : ∀ r ∈ T, r.length = n
theorem Sq.at_ {T : List (List Int)} {n i : Nat} (h : Sq T n) (hi : i < n) : T[i]? = some (ro T i) := by
  have hl : i < T.length := by rw [h.len]; exact hi
  unfold ro
  rw [List.getElem?_eq_getElem hl]; rfl
theorem Sq.rlen {T : List (List Int)} {n i : Nat} (h : Sq T n) (hi : i < n) : (ro T i).length = n := h.row _ (List.mem_of_getElem? (h.at_ hi))
theorem el_at {r : List Int} {i : Nat} (hi : i < r.length) : r[i]? = some (el r i) := by
  unfold el
  rw [List.getElem?_eq_getElem hi]; rfl
theorem row_ext {r s : List Int} (hl : r.length = s.length) (h : ∀ i, i < r.length → el r i = el s i) : r = s := by
  refine List.ext_getElem? fun i => ?_
  by_cases hi : i < r.length
  · rw [el_at hi, el_at (by omega), h i hi]
  · rw [List.getElem?_eq_none (by omega), List.getElem?_eq_none (by omega)]
theorem mem_el {r : List Int} {x : Int} (h : x ∈ r) : ∃ i, i < r.length ∧ el r i = x := by
  obtain ⟨i, hi, e⟩ := List.getElem_of_mem h
  exact ⟨i, hi, by unfold el; rw [List.getElem?_eq_getElem hi, e]; rfl⟩
theorem el_mem {r : List Int} {i : Nat} (hi : i < r.length) : el r i ∈ r := List.mem_of_getElem? (el_at hi)
@[simp] theorem lf_wI (w : List Int) : (wI w).lf = true := by simp [wI]
@[simp] theorem lfs_wI (T : List (List Int)) : lfs (T.map wI) = true := lfs_map lf_wI T
@[simp] theorem lf_tB (T : List (List Int)) : (tB T).lf = true := by simp [tB]
@[simp] theorem isi_wI (T : String) (w : List Int) : isiD T (wI w) = some (.bl (isTy "tuple" T)) := rfl
@[simp] theorem isi_tB (T : String) (w : List (List Int)) : isiD T (tB w) = some (.bl (isTy "tuple" T)) := rfl
@[simp] theorem len_wI (w : List Int) : bLen [wI w] = some (.int w.length) := by simp [wI]
@[simp] theorem len_tB (w : List (List Int)) : bLen [tB w] = some (.int w.length) := by simp [tB]
@[simp] theorem items_wI (w : List Int) : (wI w).items = some (w.map D.int) := rfl
@[simp] theorem items_tB (w : List (List Int)) : (tB w).items = some (w.map wI) := rfl
@[simp] theorem lfT_wI (w : List Int) : lfT (wI w) = some (w.map D.int) := by simp [wI]
@[simp] theorem lfT_tB (w : List (List Int)) : lfT (tB w) = some (w.map wI) := by simp [tB]
theorem wI_at {r : List Int} {i : Nat} (hi : i < r.length) : dIx (wI r) (.int (i : Nat)) = some (.int (el r i)) := at_nat (by rw [List.getElem?_map, el_at hi]; rfl)
theorem tB_at {T : List (List Int)} {n i : Nat} (h : Sq T n) (hi : i < n) : dIx (tB T) (.int (i : Nat)) = some (wI (ro T i)) := at_nat (by rw [List.getElem?_map, h.at_ hi]; rfl)
theorem tB_at2 {T : List (List Int)} {n i j : Nat} (h : Sq T n) (hi : i < n) (hj : j < n) : dIx (wI (ro T i)) (.int (j : Nat)) = some (.int (tl T i j)) := wI_at (by rw [h.rlen hi]; exact hj)
theorem eq_wI (a b : List Int) : dEq (wI a) (wI b) = some (.bl (decide (a = b))) := eq_ints a b
theorem ne_wI (a b : List Int) : dNe (wI a) (wI b) = some (.bl (!decide (a = b))) := ne_ints a b
theorem add_wI (a b : List Int) (h : a.length + b.length ≤ 1000) : dAdd (wI a) (wI b) = some (wI (a ++ b)) := by
  unfold wI
  rw [add_tup, if_pos (by rw [List.length_map, List.length_map]; omega), List.map_append]
theorem intL_ints (l : List Int) : intL (l.map D.int) = some l := by
  have := intL_map (fun i : Int => i) l
  simpa using this
theorem max_wI {r : List Int} (h : r ≠ []) : bMaxS [wI r] = some (.int (mxI r)) := by
  show ((some (r.map D.int)).bind intL).bind _ = _
  rw [Option.bind_some, intL_ints, Option.bind_some, if_neg (by intro z; exact h (List.isEmpty_iff.mp z))]
theorem min_wI {r : List Int} (h : r ≠ []) : bMinS [wI r] = some (.int (mnI r)) := by
  show ((some (r.map D.int)).bind intL).bind _ = _
  rw [Option.bind_some, intL_ints, Option.bind_some, if_neg (by intro z; exact h (List.isEmpty_iff.mp z))]
theorem max_lst {r : List Int} (h : r ≠ []) : bMaxS [.lst (r.map D.int)] = some (.int (mxI r)) := max_wI h
@[simp] theorem tru_tup (xs : List D) : truD (.tup xs) = some (!xs.isEmpty) := rfl
@[simp] theorem tru_lst (xs : List D) : truD (.lst xs) = some (!xs.isEmpty) := rfl
@[simp] theorem at_l1 {α : Type} (a : α) : atI [a] (-1) = some a := at_last [] a
theorem eqv_s1 (x y : Str) : (D.tup [.str x]).eqv (.tup [.str y]) = (x == y) := by
  rw [eqv_tup, pys, pys, pys, pys, PyData.eqvAll, PyData.eqvAll]
  have := eqv_str x y
  unfold D.eqv at this
  rw [this, Bool.and_true]
theorem dOk_s1 {x : Str} (h : PyData.strOk x = true) : dOk 8 (.tup [.str x]) = true := by
  rw [dOk, List.all_cons, dOk_str 7 h]; rfl
theorem ne_s1 {x y : Str} (h : PyData.strOk x = true) (h2 : PyData.strOk y = true) : dNe (.tup [.str x]) (.tup [.str y]) = some (.bl (!(x == y))) := by
  rw [dNe, dOk_s1 h, dOk_s1 h2, eqv_s1]; rfl
theorem eqv_selfs (x : Str) : (x == x) = true := beq_self_eq_true x
theorem ne_s1_self {x : Str} (h : PyData.strOk x = true) : dNe (.tup [.str x]) (.tup [.str x]) = some (.bl false) := by
  rw [ne_s1 h h, eqv_selfs]; rfl
theorem enumD_rng (T : List (List Int)) : enumD 0 (T.map wI) = (List.range T.length).map fun i => .tup [.int (i : Nat), wI (ro T i)] := by
  refine List.ext_getElem? fun i => ?_
  rw [enumD_get, List.getElem?_map, List.getElem?_map]
  by_cases hi : i < T.length
  · rw [List.getElem?_range hi, List.getElem?_eq_getElem hi]
    have : ro T i = T[i] := by unfold ro; rw [List.getElem?_eq_getElem hi]; rfl
    rw [Option.map_some, Option.map_some, Option.map_some, this, Nat.zero_add]
  · rw [List.getElem?_eq_none (by omega), List.getElem?_eq_none (by rw [List.length_range]; omega)]; rfl
theorem zipD_zip : ∀ (r q : List Int), zipD (r.map .int) (q.map .int) = (r.zip q).map fun p => .tup [.int p.1, .int p.2]
  | [], _ => by simp [zipD]
  | _ :: _, [] => by simp [zipD]
  | x :: r, y :: q => by simp [zipD, zipD_zip r q]
/-! ### comprehensions with two loops -/
theorem cLp2_map {vs : List Nat} {g : D → Ev → Option Ev} {tt : Ev → M Bool} {inn : Ev → M (List D)} {δ : Ev} {s : Src} {α : Type} (en : α → D) (f : α → List D) : ∀ (l : List α), (∀ a ∈ l, ∃ δ1, g (en a) (wipeE δ vs) = some δ1 ∧ tt δ1 s = some (true, s) ∧ inn δ1 s = some (f a, s)) →
    cLp2 vs g tt inn δ (l.map en) s = some (l.flatMap f, s)
  | [], _ => rfl
  | a :: l, h => by
    obtain ⟨δ1, h1, h2, h3⟩ := h a List.mem_cons_self
    rw [List.map_cons, cLp2]
    simp only [bd_ap, h1, of_some, Option.bind_some, h2, if_true, h3, cLp2_map en f l fun b hb => h b (List.mem_cons_of_mem _ hb), ret_ap, List.flatMap_cons]
/-- comprehensions with a test, without draws -/
theorem cLp_filter {vs : List Nat} {g : D → Ev → Option Ev} {tt : Ev → M Bool} {te : FE} {δ : Ev} {s : Src} {α : Type} (en : α → D) (t : α → Bool) (f : α → D) : ∀ (l : List α), (∀ a ∈ l, ∃ δ1, g (en a) (wipeE δ vs) = some δ1 ∧ tt δ1 s = some (t a, s) ∧ (t a = true → te δ1 s = some (f a, s))) →
    cLp vs g tt te δ (l.map en) s = some ((l.filter t).map f, s)
  | [], _ => rfl
  | a :: l, h => by
    obtain ⟨δ1, h1, h2, h3⟩ := h a List.mem_cons_self
    have ih := cLp_filter (vs := vs) (g := g) (tt := tt) (te := te) (δ := δ) (s := s) en t f l fun b hb => h b (List.mem_cons_of_mem _ hb)
    rw [List.map_cons, cLp]
    cases e : t a with
    | true => simp only [bd_ap, h1, of_some, Option.bind_some, h2, e, if_true, h3 e, ih, ret_ap, List.filter_cons, List.map_cons]
    | false => simp only [bd_ap, h1, of_some, Option.bind_some, h2, e, Bool.false_eq_true, if_false, ih, List.filter_cons]
theorem inLc_eq {h : FI} {vs : List Nat} {g : D → Ev → Option Ev} {tt : Ev → M Bool} {te : FE} {δ : Ev} {s s1 s2 : Src} {ds ys : List D} (h1 : h δ s = some (ds, s1)) (hl : ds.length ≤ 1000) (hc : cLp vs g tt te δ ds s1 = some (ys, s2)) : inLc h vs g tt te δ s = some (ys, s2) := by
  unfold inLc
  rw [bd_ap, h1, Option.bind_some, if_pos hl]; exact hc
theorem lc2_eq {h h1 : FI} {vs vs1 : List Nat} {g g1 : D → Ev → Option Ev} {tt tt1 : Ev → M Bool} {te : FE} {δ : Ev} {s s1 s2 : Src} {ds ys : List D} (e1 : h δ s = some (ds, s1)) (hl : ds.length ≤ 1000) (hc : cLp2 vs g tt (inLc h1 vs1 g1 tt1 te) δ ds s1 = some (ys, s2)) : eLc2 h vs g tt h1 vs1 g1 tt1 te δ s = some (.lst ys, s2) := by
  unfold eLc2
  rw [bd_ap, e1, Option.bind_some, if_pos hl, bd_ap, hc]; rfl
/-- what range(i, n) walks over -/
theorem rg2_n {i n : Nat} (h : i ≤ 1000) (h2 : n ≤ 1000) : rg2 [.int (i : Nat), .int (n : Nat)] = some ((List.range (n - i)).map fun k => .int ((i + k : Nat) : Int)) := by
  rw [rg2_i, if_pos (by omega), rngD_map, show ((n : Int) - (i : Int)).toNat = n - i by omega]
  rfl
@[simp] theorem sForN_ap {h : FI} {tg : D → Ev → Option Ev} {body : FS} {δ : Ev} {s : Src} : sForN h tg body δ s = (h δ s).bind fun p => if noOw δ = true then fLp tg body p.1 δ p.2 else none := by
  simp only [sForN, bd_ap]; congr; funext k; split <;> rfl
/-- an any over tests that all fail -/
theorem any_no {α : Type} (l : List α) : bAny [.lst (l.map fun _ => .bl false)] = some (.bl false) := by
  rw [any_lst, boolL_map (fun _ : α => false)]
  simp
theorem all_yes {α : Type} (l : List α) : bAll [.lst (l.map fun _ => .bl true)] = some (.bl true) := by
  rw [all_lst, boolL_map (fun _ : α => true)]
  simp
/-- loops whose body leaves all but some slots -/
theorem fLp_keep {α : Type} (en : α → D) {tg : D → Ev → Option Ev} {body : FS} (I : Ev → Prop) {s : Src} (l : List α) (δ : Ev) (h0 : I δ) (h : ∀ a ∈ l, ∀ δ, I δ → (en a).lf = true ∧ ∃ δ1 δ2, tg (en a) δ = some δ1 ∧ body δ1 s = some (.nx δ2, s) ∧ I δ2) :
    ∃ δ', fLp tg body (l.map en) δ s = some (.nx δ', s) ∧ I δ' := by
  obtain ⟨δ', h1, h2⟩ := fLp_inv (tg := tg) (body := body) (s := s) (fun _ δ => I δ) (l.map en) 0 δ h0 fun i d δ hd hI => by
    rw [List.getElem?_map] at hd
    obtain ⟨a, ha, rfl⟩ := Option.map_eq_some_iff.mp hd
    exact h a (List.mem_of_getElem? ha) δ hI
  exact ⟨δ', h1, h2⟩
end DL
set_option Elab.async false
set_option linter.all false
set_option maxRecDepth 100000
set_option maxHeartbeats 400000
/-! DI2: tables as own lists of lists. -/
namespace DL
open PySem PySem.Spec PyProof.Rows L2
def lI (r : List Int) : D := .lst (r.map .int)
def lB (Q : List (List Int)) : D := .lst (Q.map lI)
def set2 (Q : List (List Int)) (i j : Nat) (v : Int) : List (List Int) := Q.set i ((ro Q i).set j v)
theorem ixN_nat' {n j : Nat} (h : j < n) : ixN n (j : Int) = some j := by
  unfold ixN
  rw [if_pos (by omega), if_pos (by omega), Int.toNat_natCast]
theorem Sq.set2 {Q : List (List Int)} {n i j : Nat} {v : Int} (h : Sq Q n) (hi : i < n) : Sq (set2 Q i j v) n := ⟨by unfold DL.set2; rw [List.length_set]; exact h.len, fun r hr => by
  unfold DL.set2 at hr
  rcases List.mem_or_eq_of_mem_set hr with hr | rfl
  · exact h.row r hr
  · rw [List.length_set]; exact h.rlen hi⟩
theorem tl_set2 {Q : List (List Int)} {n i j a b : Nat} {v : Int} (h : Sq Q n) (hi : i < n) (hj : j < n) : tl (set2 Q i j v) a b = if a = i ∧ b = j then v else tl Q a b := by
  have hl : i < Q.length := by rw [h.len]; exact hi
  by_cases ha : a = i
  · subst ha
    have e : ro (set2 Q a j v) a = (ro Q a).set j v := by
      unfold set2
      conv => lhs; unfold ro
      rw [List.getElem?_set_self hl]; rfl
    unfold tl
    rw [e]
    by_cases hb : b = j
    · subst hb
      rw [if_pos ⟨rfl, rfl⟩]
      unfold el
      rw [List.getElem?_set_self (by rw [h.rlen hi]; exact hj)]; rfl
    · rw [if_neg (fun z => hb z.2)]
      unfold el
      rw [List.getElem?_set_ne (fun z => hb z.symm)]
  · rw [if_neg (fun z => ha z.1)]
    have e : ro (set2 Q i j v) a = ro Q a := by
      unfold set2
      conv => lhs; unfold ro
      rw [List.getElem?_set_ne (fun z => ha z.symm)]; rfl
    unfold tl
    rw [e]
theorem lB_at {Q : List (List Int)} {n i : Nat} (h : Sq Q n) (hi : i < n) : dIx (lB Q) (.int (i : Nat)) = some (lI (ro Q i)) := at_nat (by rw [List.getElem?_map, h.at_ hi]; rfl)
theorem lB_at2 {Q : List (List Int)} {n i j : Nat} (h : Sq Q n) (hi : i < n) (hj : j < n) : dIx (lI (ro Q i)) (.int (j : Nat)) = some (.int (tl Q i j)) := at_nat (by rw [List.getElem?_map, el_at (by rw [h.rlen hi]; exact hj)]; rfl)
theorem sub2_ap {i : Nat} {fk fl f : FE} {δ : Ev} {s s1 : Src} {Q : List (List Int)} {n a b : Nat} {v : Int} (hd : δ[i]? = some (.ow (lB Q))) (h : Sq Q n) (ha : a < n) (hb : b < n) (hf : f δ s = some (.int v, s1)) (hk : fk δ s1 = some (.int (a : Nat), s1)) (hl : fl δ s1 = some (.int (b : Nat), s1)) :
    sSub2 i fk fl f δ s = some (.nx (δ.set i (.ow (lB (set2 Q a b v)))), s1) := by
  unfold sSub2
  rw [bd_ap, hf, Option.bind_some, bd_ap, hk, Option.bind_some, bd_ap, hl, Option.bind_some, hd]
  show M.of ((ixN (Q.map lI).length (a : Int)).bind _) s1 = _
  rw [List.length_map, h.len, ixN_nat' ha, Option.bind_some, List.getElem?_map, h.at_ ha]
  show M.of (if _ then _ else _) s1 = _
  rw [if_pos ⟨rfl, lfs_ints _⟩, List.length_map, h.rlen ha, ixN_nat' hb, Option.map_some, of_some]
  have e : (Q.map lI).set a (D.lst (((ro Q a).map D.int).set b (.int v))) = (set2 Q a b v).map lI := by
    unfold set2
    rw [List.map_set]
    congr 1
    unfold lI
    rw [List.map_set]
  rw [e]; rfl
/-- loops whose turns may draw -/
theorem fLp_invS {tg : D → Ev → Option Ev} {body : FS} (I : Nat → Ev → Src → Prop) : ∀ (ds : List D) (k : Nat) (δ : Ev) (s : Src), I k δ s →
    (∀ (i : Nat) (d : D) (δ : Ev) (s : Src), ds[i]? = some d → I (k + i) δ s → d.lf = true ∧ ∃ δ1 δ2 s2, tg d δ = some δ1 ∧ body δ1 s = some (.nx δ2, s2) ∧ I (k + i + 1) δ2 s2) → ∃ δ' s', fLp tg body ds δ s = some (.nx δ', s') ∧ I (k + ds.length) δ' s'
  | [], k, δ, s, h, _ => ⟨δ, s, rfl, h⟩
  | d :: ds, k, δ, s, h, hs => by
    obtain ⟨hl, δ1, δ2, s2, h1, h2, h3⟩ := hs 0 d δ s rfl h
    obtain ⟨δ', s', h4, h5⟩ := fLp_invS I ds (k + 1) δ2 s2 h3 fun i e δ s he hi => by
      have := hs (i + 1) e δ s (by simpa using he) (by rw [show k + (i + 1) = k + 1 + i by omega]; exact hi)
      rw [show k + (i + 1) + 1 = k + 1 + i + 1 by omega] at this
      exact this
    refine ⟨δ', s', ?_, by rw [List.length_cons, show k + (ds.length + 1) = k + 1 + ds.length by omega]; exact h5⟩
    rw [fLp]
    simp only [bd_ap, hl, if_true, h1, of_some, Option.bind_some, h2]
    exact h4
theorem tup_lI (r : List Int) : bTup [lI r] = some (wI r) := rfl
theorem list_wI (r : List Int) : bListF [wI r] = some (lI r) := by
  show (some (r.map D.int)).bind (fun xs => if lfs xs = true then some (D.lst xs) else none) = _
  rw [Option.bind_some, if_pos (lfs_ints r)]; rfl
end DL
set_option Elab.async false
set_option linter.all false
set_option maxRecDepth 100000
set_option maxHeartbeats 400000
/-! DX: rows and tables as functions on places; reckoning by rules (Yl). -/
namespace DL
open PySem PySem.Spec PyProof.Rows L2

/-- o yields a and leaves the source at s -/
def Yl {α : Type} (o : Option (α × Src)) (a : α) (s : Src) : Prop := o = some (a, s)
@[simp] theorem Yl_some {α : Type} (a b : α) (s : Src) : Yl (some (a, s)) b s = (a = b) := by simp [Yl]
theorem Yl.eq {α : Type} {o : Option (α × Src)} {a : α} {s : Src} (h : Yl o a s) : o = some (a, s) := h
section
variable {α β : Type} {s s1 s2 s3 : Src} {δ δ1 : Ev} {f g h : FE} {p q : Ev → M Bool} {i j : Nat} {d d' : D} {fs : Ev → M (List D)} {ds : List D}
theorem Yl.bd {m : Option (α × Src)} {k : α × Src → Option (β × Src)} {a : α} {b : β} (h : Yl m a s1) (hk : Yl (k (a, s1)) b s2) : Yl (m.bind k) b s2 := by
  unfold Yl at *; rw [h]; exact hk
theorem Yl.seq {a b : FS} {r : Out} (h : Yl (a δ s) (.nx δ1) s1) (h2 : Yl (b δ1 s1) r s2) : Yl (sSeq a b δ s) r s2 := by
  unfold Yl at *; rw [seq_nx h]; exact h2
theorem Yl.seqR {a b : FS} {d : D} (h : Yl (a δ s) (.rt d) s1) : Yl (sSeq a b δ s) (.rt d) s1 := by
  unfold Yl at *; rw [sSeq_ap, h]; rfl
theorem Yl.ownS (h : Yl (f δ s) d s1) : Yl (sOwn i f δ s) (.nx (δ.set i (.ow d))) s1 := by
  unfold Yl at *; rw [sOwn_ap, h]; rfl
theorem Yl.own (h : Yl (f δ s) d s) : Yl (sOwn i f δ s) (.nx (δ.set i (.ow d))) s := .ownS h
theorem Yl.setS (h : Yl (f δ s) d s1) (hl : d.lf = true) : Yl (sSet i f δ s) (.nx (δ.set i (.rd d))) s1 := by
  unfold Yl at *; rw [sSet_ap, h, Option.bind_some, if_pos hl]
theorem Yl.set (h : Yl (f δ s) d s) (hl : d.lf = true) : Yl (sSet i f δ s) (.nx (δ.set i (.rd d))) s := .setS h hl
theorem Yl.ret (h : Yl (f δ s) d s1) : Yl (sRet f δ s) (.rt d) s1 := by
  unfold Yl at *; rw [sRet_ap, h]; rfl
theorem Yl.expS (h : Yl (f δ s) d s1) : Yl (sExp f δ s) (.nx δ) s1 := by
  unfold Yl at *; rw [sExp_ap, h]; rfl
theorem Yl.exp (h : Yl (f δ s) d s) : Yl (sExp f δ s) (.nx δ) s := .expS h
theorem Yl.ifTS {a b : FS} {r : Out} (h : Yl (p δ s) true s1) (ha : Yl (a δ s1) r s2) : Yl (sIf p a b δ s) r s2 := by
  unfold Yl at *; rw [sIf_ap, h]; exact ha
theorem Yl.ifFS {a b : FS} {r : Out} (h : Yl (p δ s) false s1) (ha : Yl (b δ s1) r s2) : Yl (sIf p a b δ s) r s2 := by
  unfold Yl at *; rw [sIf_ap, h]; exact ha
theorem Yl.ifT {a b : FS} {r : Out} (h : Yl (p δ s) true s) (ha : Yl (a δ s) r s2) : Yl (sIf p a b δ s) r s2 := .ifTS h ha
theorem Yl.ifF {a b : FS} {r : Out} (h : Yl (p δ s) false s) (ha : Yl (b δ s) r s2) : Yl (sIf p a b δ s) r s2 := .ifFS h ha
theorem Yl.nil : Yl (sNil δ s) (.nx δ) s := rfl
/-- an if whose body is passed over -/
theorem Yl.passS {a : FS} (h : Yl (p δ s) false s1) : Yl (sIf p a sNil δ s) (.nx δ) s1 := .ifFS h .nil
theorem Yl.pass {a : FS} (h : Yl (p δ s) false s) : Yl (sIf p a sNil δ s) (.nx δ) s := .ifFS h .nil
/-- goes on, with what then holds -/
def Yx (o : Option (Out × Src)) (P : Ev → Src → Prop) : Prop := ∃ δ s, o = some (.nx δ, s) ∧ P δ s
theorem Yx.mk {o : Option (Out × Src)} {P : Ev → Src → Prop} (h : Yl o (.nx δ) s) (hp : P δ s) : Yx o P := ⟨δ, s, h, hp⟩
theorem Yx.seq {a b : FS} {P : Ev → Src → Prop} (h : Yl (a δ s) (.nx δ1) s1) (h2 : Yx (b δ1 s1) P) : Yx (sSeq a b δ s) P := by
  obtain ⟨δ2, s2, e, q⟩ := h2
  exact ⟨δ2, s2, Yl.seq h e, q⟩
theorem Yx.ifT {a b : FS} {P : Ev → Src → Prop} (h : Yl (p δ s) true s) (h2 : Yx (a δ s) P) : Yx (sIf p a b δ s) P := by
  obtain ⟨δ2, s2, e, q⟩ := h2
  exact ⟨δ2, s2, Yl.ifT h e, q⟩
theorem Yx.ifF {a b : FS} {P : Ev → Src → Prop} (h : Yl (p δ s) false s) (h2 : Yx (b δ s) P) : Yx (sIf p a b δ s) P := by
  obtain ⟨δ2, s2, e, q⟩ := h2
  exact ⟨δ2, s2, Yl.ifF h e, q⟩
theorem Yx.imp {o : Option (Out × Src)} {P Q : Ev → Src → Prop} (h : Yx o P) (hq : ∀ δ s, P δ s → Q δ s) : Yx o Q := by
  obtain ⟨δ2, s2, e, q⟩ := h
  exact ⟨δ2, s2, e, hq _ _ q⟩
theorem Yl.call {o : List D → Option D} (h : Yl (fs δ s) ds s1) (e : o ds = some d) : Yl (eCall o fs δ s) d s1 := by
  unfold Yl at *; rw [eCall_ap, h, Option.bind_some, e]; rfl
theorem Yl.fn {F : List D → M D} (h : Yl (fs δ s) ds s1) (e : Yl (F ds s1) d s2) : Yl (eFn F fs δ s) d s2 := by
  unfold Yl at *; rw [eFn_ap, h]; exact e
theorem Yl.as0 : Yl (eAs0 δ s) [] s := rfl
theorem Yl.as_ (h : Yl (f δ s) d s1) (e : Yl (fs δ s1) ds s2) : Yl (eAs f fs δ s) (d :: ds) s2 := by
  unfold Yl at *; rw [eAs_ap, h, Option.bind_some, e]; rfl
theorem Yl.as1 (h : Yl (f δ s) d s1) : Yl (eAs f eAs0 δ s) [d] s1 := .as_ h .as0
theorem Yl.bOf {b : Bool} (h : Yl (f δ s) (.bl b) s1) : Yl (bOf f δ s) b s1 := by
  unfold Yl at *; rw [bOf_ap, h]; rfl
theorem Yl.bTr {b : Bool} (h : Yl (f δ s) d s1) (e : truD d = some b) : Yl (bTr f δ s) b s1 := by
  unfold Yl at *; rw [bTr_ap, h, Option.bind_some, e]; rfl
theorem Yl.not {b : Bool} (h : Yl (p δ s) b s1) : Yl (bNot p δ s) (!b) s1 := by
  unfold Yl at *; rw [bNot_ap, h]; rfl
theorem Yl.or0 {b : Bool} (h : Yl (p δ s) false s1) (h2 : Yl (q δ s1) b s2) : Yl (bOr p q δ s) b s2 := by
  unfold Yl at *; rw [bOr_ap, h]; exact h2
theorem Yl.or1 (h : Yl (p δ s) true s1) : Yl (bOr p q δ s) true s1 := by
  unfold Yl at *; rw [bOr_ap, h]; rfl
theorem Yl.and1 {b : Bool} (h : Yl (p δ s) true s1) (h2 : Yl (q δ s1) b s2) : Yl (bAnd p q δ s) b s2 := by
  unfold Yl at *; rw [bAnd_ap, h]; exact h2
theorem Yl.and0 (h : Yl (p δ s) false s1) : Yl (bAnd p q δ s) false s1 := by
  unfold Yl at *; rw [bAnd_ap, h]; rfl
theorem Yl.e2 {o : D → D → Option D} {a b : D} (h : Yl (f δ s) a s1) (h2 : Yl (g δ s1) b s2) (e : o a b = some d) : Yl (e2 o f g δ s) d s2 := by
  unfold Yl at *; rw [e2_ap, h, Option.bind_some, h2, Option.bind_some, e]; rfl
theorem Yl.tup (h : Yl (fs δ s) ds s1) (hl : ds.length ≤ 1000000) : Yl (eTup fs δ s) (.tup ds) s1 := by
  unfold Yl at *; rw [eTup_ap, h, Option.bind_some, if_pos hl]; rfl
theorem Yl.b {b c : Bool} (h : b = c) : Yl (some (D.bl b, s)) (.bl c) s := by subst h; rfl
theorem Yl.pp {b c : Bool} (h : b = c) : Yl (some (b, s)) c s := by subst h; rfl
theorem Yl.v {x y : α} (h : x = y) : Yl (some (x, s)) y s := by subst h; rfl
theorem Yl.cast {o : Option (α × Src)} {x y : α} (h : Yl o x s) (e : x = y) : Yl o y s := e ▸ h
end

/-! ### rows on places -/
def seqF (n : Nat) (f : Nat → D) : List D := (List.range n).map f
def vT (n : Nat) (f : Nat → D) : D := .tup (seqF n f)
def vL (n : Nat) (f : Nat → D) : D := .lst (seqF n f)
theorem seqF_len (n : Nat) (f : Nat → D) : (seqF n f).length = n := by simp [seqF]
theorem seqF_get {n i : Nat} {f : Nat → D} (h : i < n) : (seqF n f)[i]? = some (f i) := by rw [seqF, List.getElem?_map, List.getElem?_range h]; rfl
theorem seqF_inv {n i : Nat} {f : Nat → D} {d : D} (h : (seqF n f)[i]? = some d) : i < n ∧ d = f i := by
  have hi : i < n := by
    have := (List.getElem?_eq_some_iff.mp h).1
    rwa [seqF_len] at this
  rw [seqF_get hi] at h
  exact ⟨hi, (Option.some.inj h).symm⟩
theorem seqF_congr {n : Nat} {f g : Nat → D} (h : ∀ i, i < n → f i = g i) : seqF n f = seqF n g := List.map_congr_left fun i hi => h i (List.mem_range.mp hi)
theorem vT_congr {n : Nat} {f g : Nat → D} (h : ∀ i, i < n → f i = g i) : vT n f = vT n g := congrArg D.tup (seqF_congr h)
theorem vL_congr {n : Nat} {f g : Nat → D} (h : ∀ i, i < n → f i = g i) : vL n f = vL n g := congrArg D.lst (seqF_congr h)
theorem lfs_seqF {n : Nat} {f : Nat → D} (h : ∀ i, (f i).lf = true) : lfs (seqF n f) = true := lfs_map h _
class LfF (f : Nat → D) : Prop where
  h : ∀ i, (f i).lf = true
class LfL (f : Nat → List D) : Prop where
  h : ∀ i, lfs (f i) = true
instance lfF_int (g : Nat → Int) : LfF fun i => .int (g i) := ⟨fun _ => rfl⟩
instance lfF_bl (g : Nat → Bool) : LfF fun i => .bl (g i) := ⟨fun _ => rfl⟩
instance lfF_str (g : Nat → Str) : LfF fun i => .str (g i) := ⟨fun _ => rfl⟩
instance lfF_non : LfF fun _ => .non := ⟨fun _ => rfl⟩
instance lfF_vT (m : Nat → Nat) (g : Nat → Nat → D) [q : ∀ i, LfF (g i)] : LfF fun i => vT (m i) (g i) := ⟨fun i => by rw [vT, lf_tup, lfs_seqF (q i).h]⟩
instance lfL_nil : LfL fun _ => [] := ⟨fun _ => by simp⟩
instance lfL_cons (f : Nat → D) (g : Nat → List D) [a : LfF f] [b : LfL g] : LfL fun i => f i :: g i := ⟨fun i => by rw [lfs_cons, a.h, b.h]; rfl⟩
instance lfF_tup (g : Nat → List D) [b : LfL g] : LfF fun i => .tup (g i) := ⟨fun i => by rw [lf_tup, b.h]⟩
@[simp] theorem lf_vT {n : Nat} {f : Nat → D} [h : LfF f] : (vT n f).lf = true := by rw [vT, lf_tup, lfs_seqF h.h]
theorem seqF_ext {ds : List D} {n : Nat} {f : Nat → D} (hl : ds.length = n) (h : ∀ i, i < n → ds[i]? = some (f i)) : ds = seqF n f := by
  refine List.ext_getElem? fun i => ?_
  by_cases hi : i < n
  · rw [h i hi, seqF_get hi]
  · rw [List.getElem?_eq_none (by omega), List.getElem?_eq_none (by rw [seqF_len]; omega)]
@[simp] theorem vT_len (n : Nat) (f : Nat → D) : bLen [vT n f] = some (.int (n : Nat)) := by rw [vT, len_tup, seqF_len]
@[simp] theorem vL_len (n : Nat) (f : Nat → D) : bLen [vL n f] = some (.int (n : Nat)) := by rw [vL, len_lst, seqF_len]
@[simp] theorem vT_items (n : Nat) (f : Nat → D) : (vT n f).items = some (seqF n f) := rfl
@[simp] theorem vL_items (n : Nat) (f : Nat → D) : (vL n f).items = some (seqF n f) := rfl
@[simp] theorem vT_lfT {n : Nat} {f : Nat → D} [h : LfF f] : lfT (vT n f) = some (seqF n f) := by rw [vT, lfT_tup, if_pos (lfs_seqF h.h)]
@[simp] theorem vT_isi (T : String) (n : Nat) (f : Nat → D) : isiD T (vT n f) = some (.bl (isTy "tuple" T)) := rfl
@[simp high] theorem vT_ix {n i : Nat} {f : Nat → D} (h : i < n) : dIx (vT n f) (.int (i : Nat)) = some (f i) := at_nat (seqF_get h)
@[simp high] theorem vL_ix {n i : Nat} {f : Nat → D} (h : i < n) : dIx (vL n f) (.int (i : Nat)) = some (f i) := at_nat (seqF_get h)
@[simp high] theorem vT_ix0 {n : Nat} {f : Nat → D} (h : 0 < n) : dIx (vT n f) (.int 0) = some (f 0) := vT_ix (i := 0) h
@[simp high] theorem vL_ix0 {n : Nat} {f : Nat → D} (h : 0 < n) : dIx (vL n f) (.int 0) = some (f 0) := vL_ix (i := 0) h
@[simp high] theorem vT_ix1 {n : Nat} {f : Nat → D} (h : 1 < n) : dIx (vT n f) (.int 1) = some (f 1) := vT_ix (i := 1) h
@[simp high] theorem vL_ix1 {n : Nat} {f : Nat → D} (h : 1 < n) : dIx (vL n f) (.int 1) = some (f 1) := vL_ix (i := 1) h
@[simp high] theorem vT_ix2 {n : Nat} {f : Nat → D} (h : 2 < n) : dIx (vT n f) (.int 2) = some (f 2) := vT_ix (i := 2) h
@[simp high] theorem vT_ixS {n i : Nat} {f : Nat → D} (h : i + 1 < n) : dIx (vT n f) (.int ((i : Nat) + 1 : Int)) = some (f (i + 1)) := vT_ix (i := i + 1) h
@[simp high] theorem at_F {n i : Nat} {f : Nat → D} (h : i < n) : atI (seqF n f) (i : Nat) = some (f i) := at_nat (seqF_get h)
@[simp high] theorem at_F0 {n : Nat} {f : Nat → D} (h : 0 < n) : atI (seqF n f) 0 = some (f 0) := at_F (i := 0) h
@[simp high] theorem at_F1 {n : Nat} {f : Nat → D} (h : 1 < n) : atI (seqF n f) 1 = some (f 1) := at_F (i := 1) h
@[simp high] theorem at_F2 {n : Nat} {f : Nat → D} (h : 2 < n) : atI (seqF n f) 2 = some (f 2) := at_F (i := 2) h
@[simp high] theorem at_FS {n i : Nat} {f : Nat → D} (h : i + 1 < n) : atI (seqF n f) ((i : Nat) + 1 : Int) = some (f (i + 1)) := at_F (i := i + 1) h
@[simp] theorem vT_of (n : Nat) (f : Nat → D) : bTup [vL n f] = some (vT n f) := rfl
@[simp] theorem vT_ofT (n : Nat) (f : Nat → D) : bTup [vT n f] = some (vT n f) := rfl
@[simp] theorem vL_of {n : Nat} {f : Nat → D} [h : LfF f] : bListF [vT n f] = some (vL n f) := by
  show (some (seqF n f)).bind (fun xs => if lfs xs = true then some (D.lst xs) else none) = _
  rw [Option.bind_some, if_pos (lfs_seqF h.h)]; rfl
@[simp] theorem vL_ofL {n : Nat} {f : Nat → D} [h : LfF f] : bListF [vL n f] = some (vL n f) := by
  show (some (seqF n f)).bind (fun xs => if lfs xs = true then some (D.lst xs) else none) = _
  rw [Option.bind_some, if_pos (lfs_seqF h.h)]; rfl
@[simp] theorem rg1_F {n : Nat} (h : n ≤ 1000000) : rg1 [.int (n : Nat)] = some (seqF n fun i => .int (i : Nat)) := rg1_n h
theorem rg1_S {n : Nat} (h : n < 1000000) : rg1 [.int ((n : Int) + 1)] = some (seqF (n + 1) fun i => .int (i : Nat)) := rg1_s h
@[simp] theorem rg2_F {m n : Nat} (h : m ≤ 1000) (h2 : n ≤ 1000) : rg2 [.int (m : Nat), .int (n : Nat)] = some (seqF (n - m) fun i => .int ((m + i : Nat) : Int)) := rg2_n h h2
@[simp] theorem rg2_1 {n : Nat} (h2 : n ≤ 1000) : rg2 [.int 1, .int (n : Nat)] = some (seqF (n - 1) fun i => .int ((1 + i : Nat) : Int)) := rg2_n (i := 1) (by omega) h2
@[simp] theorem rg2_0 {n : Nat} (h2 : n ≤ 1000) : rg2 [.int 0, .int (n : Nat)] = some (seqF n fun i => .int (i : Nat)) := by
  have := rg2_n (i := 0) (n := n) (by omega) h2
  simpa [seqF] using this
theorem enumD_F (n : Nat) (f : Nat → D) : enumD 0 (seqF n f) = seqF n fun i => .tup [.int (i : Nat), f i] := seqF_ext (by rw [enumD_len, seqF_len]) fun i hi => by
  rw [enumD_get, seqF_get hi, Option.map_some, Nat.zero_add]
theorem zipD_F (n : Nat) (f g : Nat → D) : zipD (seqF n f) (seqF n g) = seqF n fun i => .tup [f i, g i] := by
  have e : ∀ l : List Nat, zipD (l.map f) (l.map g) = l.map fun i => .tup [f i, g i] := fun l => by
    induction l with
    | nil => rfl
    | cons a l ih => simp [zipD, ih]
  exact e _
@[simp] theorem en1_T (n : Nat) (f : Nat → D) : en1 [vT n f] = some (seqF n fun i => .tup [.int (i : Nat), f i]) := by
  show (some (seqF n f)).map (enumD 0) = _
  rw [Option.map_some, enumD_F]
@[simp] theorem en1_L (n : Nat) (f : Nat → D) : en1 [vL n f] = some (seqF n fun i => .tup [.int (i : Nat), f i]) := by
  show (some (seqF n f)).map (enumD 0) = _
  rw [Option.map_some, enumD_F]
@[simp] theorem en1T_T {n : Nat} {f : Nat → D} [h : LfF f] : en1T [vT n f] = some (seqF n fun i => .tup [.int (i : Nat), f i]) := by
  show (lfT (vT n f)).map (enumD 0) = _
  rw [vT_lfT, Option.map_some, enumD_F]
@[simp] theorem zp2_T (n : Nat) (f g : Nat → D) : zp2 [vT n f, vT n g] = some (seqF n fun i => .tup [f i, g i]) := by
  show some (zipD (seqF n f) (seqF n g)) = _
  rw [zipD_F]
@[simp] theorem zp2_L (n : Nat) (f g : Nat → D) : zp2 [vL n f, vL n g] = some (seqF n fun i => .tup [f i, g i]) := by
  show some (zipD (seqF n f) (seqF n g)) = _
  rw [zipD_F]
/-! numbers -/
@[simp high] theorem min2_m (i j : Int) : bMin2 [.int i, .int j] = some (.int (min i j)) := by rw [min2_i]; congr 2; omega
@[simp high] theorem max2_m (i j : Int) : bMax2 [.int i, .int j] = some (.int (max i j)) := by rw [max2_i]; congr 2; omega
@[simp high] theorem abs_m (i : Int) : bAbs [.int i] = some (.int (i.natAbs : Nat)) := by rw [abs_i]; congr 2; omega
@[simp] theorem int_i (i : Int) : bInt [.int i] = some (.int i) := rfl
def numL (n : Nat) (f : Nat → Int) : List Int := (List.range n).map f
theorem intL_F (n : Nat) (f : Nat → Int) : intL (seqF n fun i => .int (f i)) = some (numL n f) := intL_map f _
theorem numL_ne {n : Nat} {f : Nat → Int} (h : 0 < n) : numL n f ≠ [] := by
  intro z
  have := congrArg List.length z
  simp [numL] at this
  omega
theorem numL_mem {n : Nat} {f : Nat → Int} {x : Int} : x ∈ numL n f ↔ ∃ i, i < n ∧ f i = x := by simp [numL]
def mxF (n : Nat) (f : Nat → Int) : Int := mxI (numL n f)
def mnF (n : Nat) (f : Nat → Int) : Int := mnI (numL n f)
def smF (n : Nat) (f : Nat → Int) : Int := (numL n f).sum
theorem mxF_in {n : Nat} (f : Nat → Int) (h : 0 < n) : ∃ i, i < n ∧ f i = mxF n f := numL_mem.mp (mxI_spec _ (numL_ne h)).1
theorem mxF_le {n i : Nat} {f : Nat → Int} (h : i < n) : f i ≤ mxF n f := (mxI_spec _ (numL_ne (by omega))).2 _ (numL_mem.mpr ⟨i, h, rfl⟩)
theorem mnF_in {n : Nat} (f : Nat → Int) (h : 0 < n) : ∃ i, i < n ∧ f i = mnF n f := numL_mem.mp (mnI_spec _ (numL_ne h)).1
theorem mnF_le {n i : Nat} {f : Nat → Int} (h : i < n) : mnF n f ≤ f i := (mnI_spec _ (numL_ne (by omega))).2 _ (numL_mem.mpr ⟨i, h, rfl⟩)
@[simp] theorem max_T {n : Nat} {f : Nat → Int} (h : 0 < n) : bMaxS [vT n fun i => .int (f i)] = some (.int (mxF n f)) := by
  show ((some (seqF n fun i => .int (f i))).bind intL).bind _ = _
  rw [Option.bind_some, intL_F, Option.bind_some, if_neg (by intro z; exact numL_ne h (List.isEmpty_iff.mp z))]; rfl
@[simp] theorem max_L {n : Nat} {f : Nat → Int} (h : 0 < n) : bMaxS [vL n fun i => .int (f i)] = some (.int (mxF n f)) := max_T h
@[simp] theorem min_T {n : Nat} {f : Nat → Int} (h : 0 < n) : bMinS [vT n fun i => .int (f i)] = some (.int (mnF n f)) := by
  show ((some (seqF n fun i => .int (f i))).bind intL).bind _ = _
  rw [Option.bind_some, intL_F, Option.bind_some, if_neg (by intro z; exact numL_ne h (List.isEmpty_iff.mp z))]; rfl
@[simp] theorem min_L {n : Nat} {f : Nat → Int} (h : 0 < n) : bMinS [vL n fun i => .int (f i)] = some (.int (mnF n f)) := min_T h
@[simp] theorem sum_T (n : Nat) (f : Nat → Int) : bSumS [vT n fun i => .int (f i)] = some (.int (smF n f)) := by
  show ((some (seqF n fun i => .int (f i))).bind intL).map _ = _
  rw [Option.bind_some, intL_F]; rfl
@[simp] theorem sum_L (n : Nat) (f : Nat → Int) : bSumS [vL n fun i => .int (f i)] = some (.int (smF n f)) := sum_T n f
@[simp] theorem smF_0 (f : Nat → Int) : smF 0 f = 0 := rfl
theorem smF_succ (n : Nat) (f : Nat → Int) : smF (n + 1) f = smF n f + f n := by
  unfold smF numL
  rw [List.range_succ, List.map_append, List.sum_append]; simp
theorem smF_congr {n : Nat} {f g : Nat → Int} (h : ∀ i, i < n → f i = g i) : smF n f = smF n g := by
  unfold smF numL
  rw [List.map_congr_left fun i hi => h i (List.mem_range.mp hi)]
theorem smF_le {n : Nat} {f g : Nat → Int} (h : ∀ i, i < n → f i ≤ g i) : smF n f ≤ smF n g := by
  induction n with
  | zero => exact Int.le_refl _
  | succ n ih =>
    rw [smF_succ, smF_succ]
    have := ih fun i hi => h i (by omega)
    have := h n (by omega)
    omega
theorem smF_add (n : Nat) (f g : Nat → Int) : smF n (fun i => f i + g i) = smF n f + smF n g := by
  induction n with
  | zero => rfl
  | succ n ih => rw [smF_succ, smF_succ, smF_succ, ih]; omega
theorem smF_mul (n : Nat) (c : Int) (f : Nat → Int) : smF n (fun i => c * f i) = c * smF n f := by
  induction n with
  | zero => simp
  | succ n ih => rw [smF_succ, smF_succ, ih, Int.mul_add]
theorem smF_zero {n : Nat} {f : Nat → Int} (h : ∀ i, i < n → f i = 0) : smF n f = 0 := by
  rw [smF_congr h]
  induction n with
  | zero => rfl
  | succ n ih => rw [smF_succ, ih fun i hi => h i (by omega)]; rfl
theorem smF_nn {n : Nat} {f : Nat → Int} (h : ∀ i, i < n → 0 ≤ f i) : 0 ≤ smF n f := by
  have := smF_le (f := fun _ => 0) h
  rwa [smF_zero fun _ _ => rfl] at this
theorem smF_one {n x : Nat} {f : Nat → Int} (hx : x < n) (h : ∀ i, i < n → i ≠ x → f i = 0) : smF n f = f x := by
  induction n with
  | zero => omega
  | succ n ih =>
    rw [smF_succ]
    by_cases e : x = n
    · subst e
      rw [smF_zero fun i hi => h i (by omega) (by omega)]; omega
    · rw [ih (by omega) fun i hi hne => h i (by omega) hne, h n (by omega) (by omega)]; omega
theorem smF_swap (n m : Nat) (f : Nat → Nat → Int) : smF n (fun i => smF m (f i)) = smF m fun j => smF n fun i => f i j := by
  induction n with
  | zero => rw [smF_0]; exact (smF_zero fun _ _ => rfl).symm
  | succ n ih =>
    rw [smF_succ, ih, ← smF_add]
    exact smF_congr fun j _ => (smF_succ n _).symm
/-! truth -/
def anyF (n : Nat) (p : Nat → Bool) : Bool := (List.range n).any p
def allF (n : Nat) (p : Nat → Bool) : Bool := (List.range n).all p
theorem anyF_no {n : Nat} {p : Nat → Bool} (h : ∀ i, i < n → p i = false) : anyF n p = false := by
  unfold anyF
  rw [List.any_eq_false]
  intro i hi
  rw [h i (List.mem_range.mp hi)]; exact Bool.false_ne_true
theorem anyF_iff {n : Nat} {p : Nat → Bool} : anyF n p = true ↔ ∃ i, i < n ∧ p i = true := by simp [anyF]
theorem allF_iff {n : Nat} {p : Nat → Bool} : allF n p = true ↔ ∀ i, i < n → p i = true := by simp [allF]
@[simp] theorem any_F (n : Nat) (p : Nat → Bool) : bAny [vL n fun i => .bl (p i)] = some (.bl (anyF n p)) := by
  show (boolL _).map _ = _
  unfold seqF
  rw [boolL_map, Option.map_some]
  show some (D.bl (((List.range n).map p).any id)) = _
  rw [List.any_map]; rfl
@[simp] theorem all_F (n : Nat) (p : Nat → Bool) : bAll [vL n fun i => .bl (p i)] = some (.bl (allF n p)) := by
  show (boolL _).map _ = _
  unfold seqF
  rw [boolL_map, Option.map_some]
  show some (D.bl (((List.range n).map p).all id)) = _
  rw [List.all_map]; rfl
theorem any_no_F (n : Nat) : bAny [vL n fun _ => .bl false] = some (.bl false) := by rw [any_F (p := fun _ => false), anyF_no fun _ _ => rfl]
theorem all_yes_F (n : Nat) : bAll [vL n fun _ => .bl true] = some (.bl true) := by
  rw [all_F (p := fun _ => true)]
  have := allF_iff (n := n) (p := fun _ => true)
  simp at this
  rw [this]
/-! equality -/
theorem dOk_F {k n : Nat} {f : Nat → D} (h : ∀ i, i < n → dOk k (f i) = true) : dOk (k + 1) (vT n f) = true := by
  show (seqF n f).all (dOk k) = true
  unfold seqF
  rw [List.all_map]
  exact List.all_eq_true.mpr fun i hi => h i (List.mem_range.mp hi)
theorem dOk_int (k : Nat) (i : Int) : dOk k (.int i) = true := by cases k <;> rfl
theorem eqv_F {n : Nat} {f g : Nat → D} {p : Nat → Prop} [∀ i, Decidable (p i)] (h : ∀ i, i < n → (f i).eqv (g i) = decide (p i)) : (vT n f).eqv (vT n g) = decide (∀ i, i < n → p i) := by
  unfold vT seqF
  rw [eqv_tup]
  have e : ∀ l : List Nat, (∀ i ∈ l, i < n) → PyData.eqvAll (pys (l.map f)) (pys (l.map g)) = decide (∀ i ∈ l, p i) := fun l => by
    induction l with
    | nil => intro _; simp [pys, PyData.eqvAll]
    | cons a l ih =>
      intro hl
      rw [List.map_cons, List.map_cons, pys, pys, PyData.eqvAll, ih fun i hi => hl i (List.mem_cons_of_mem _ hi)]
      have := h a (hl a List.mem_cons_self)
      unfold D.eqv at this
      rw [this]
      by_cases h1 : p a
      · simp [h1]
      · simp [h1]
  rw [e _ fun i hi => List.mem_range.mp hi]
  simp only [List.mem_range]
theorem eq_F {n : Nat} {f g : Nat → D} {p : Nat → Prop} [∀ i, Decidable (p i)] (h1 : ∀ i, i < n → dOk 7 (f i) = true) (h2 : ∀ i, i < n → dOk 7 (g i) = true) (h : ∀ i, i < n → (f i).eqv (g i) = decide (p i)) : dEq (vT n f) (vT n g) = some (.bl (decide (∀ i, i < n → p i))) := by
  unfold dEq
  rw [dOk_F h1, dOk_F h2, eqv_F h]; rfl
theorem ne_F {n : Nat} {f g : Nat → D} {p : Nat → Prop} [∀ i, Decidable (p i)] (h1 : ∀ i, i < n → dOk 7 (f i) = true) (h2 : ∀ i, i < n → dOk 7 (g i) = true) (h : ∀ i, i < n → (f i).eqv (g i) = decide (p i)) : dNe (vT n f) (vT n g) = some (.bl (!decide (∀ i, i < n → p i))) := by
  unfold dNe
  rw [dOk_F h1, dOk_F h2, eqv_F h]; rfl
/-- rows of numbers -/
theorem eq_R (n : Nat) (f g : Nat → Int) : dEq (vT n fun i => .int (f i)) (vT n fun i => .int (g i)) = some (.bl (decide (∀ i, i < n → f i = g i))) := eq_F (p := fun i => f i = g i) (fun _ _ => dOk_int 7 _) (fun _ _ => dOk_int 7 _) fun i _ => eqv_int _ _
theorem ne_R (n : Nat) (f g : Nat → Int) : dNe (vT n fun i => .int (f i)) (vT n fun i => .int (g i)) = some (.bl (!decide (∀ i, i < n → f i = g i))) := ne_F (p := fun i => f i = g i) (fun _ _ => dOk_int 7 _) (fun _ _ => dOk_int 7 _) fun i _ => eqv_int _ _
theorem eq_R_yes {n : Nat} {f g : Nat → Int} (h : ∀ i, i < n → f i = g i) : dEq (vT n fun i => .int (f i)) (vT n fun i => .int (g i)) = some (.bl true) := by rw [eq_R, decide_eq_true h]
theorem ne_R_no {n : Nat} {f g : Nat → Int} (h : ∀ i, i < n → f i = g i) : dNe (vT n fun i => .int (f i)) (vT n fun i => .int (g i)) = some (.bl false) := by rw [ne_R, decide_eq_true h]; rfl
/-- tables of numbers -/
theorem eq_T (n m : Nat) (f g : Nat → Nat → Int) : dEq (vT n fun i => vT m fun j => .int (f i j)) (vT n fun i => vT m fun j => .int (g i j)) = some (.bl (decide (∀ i, i < n → ∀ j, j < m → f i j = g i j))) :=
  eq_F (p := fun i => ∀ j, j < m → f i j = g i j) (fun _ _ => dOk_F fun _ _ => dOk_int 6 _) (fun _ _ => dOk_F fun _ _ => dOk_int 6 _) fun i _ => eqv_F (p := fun j => f i j = g i j) fun j _ => eqv_int _ _
theorem ne_T (n m : Nat) (f g : Nat → Nat → Int) : dNe (vT n fun i => vT m fun j => .int (f i j)) (vT n fun i => vT m fun j => .int (g i j)) = some (.bl (!decide (∀ i, i < n → ∀ j, j < m → f i j = g i j))) :=
  ne_F (p := fun i => ∀ j, j < m → f i j = g i j) (fun _ _ => dOk_F fun _ _ => dOk_int 6 _) (fun _ _ => dOk_F fun _ _ => dOk_int 6 _) fun i _ => eqv_F (p := fun j => f i j = g i j) fun j _ => eqv_int _ _
theorem add_F {n m : Nat} {f g : Nat → D} (h : n + m ≤ 1000) : dAdd (vT n f) (vT m g) = some (vT (n + m) fun i => if i < n then f i else g (i - n)) := by
  unfold vT
  rw [add_tup, if_pos (by rw [seqF_len, seqF_len]; omega)]
  congr 2
  refine seqF_ext (by rw [List.length_append, seqF_len, seqF_len]) fun i hi => ?_
  by_cases h1 : i < n
  · rw [List.getElem?_append_left (by rw [seqF_len]; exact h1), seqF_get h1, if_pos h1]
  · rw [List.getElem?_append_right (by rw [seqF_len]; omega), seqF_len, seqF_get (by omega), if_neg h1]
theorem add_F1 {n : Nat} {f : Nat → D} {x : D} (h : n < 1000) : dAdd (vT n f) (.tup [x]) = some (vT (n + 1) fun i => if i < n then f i else x) := by
  have := add_F (n := n) (m := 1) (f := f) (g := fun _ => x) (by have := h; omega)
  exact this

/-! ### comprehensions and loops -/
section
variable {h : FI} {vs : List Nat} {g : D → Ev → Option Ev} {tt : Ev → M Bool} {te : FE} {δ : Ev} {s s1 : Src}
theorem Yl.lc {n : Nat} {f F : Nat → D} (h1 : Yl (h δ s) (seqF n f) s1) (hn : n ≤ 1000000) (hb : ∀ i, i < n → ∃ δ1, g (f i) (wipeE δ vs) = some δ1 ∧ Yl (tt δ1 s1) true s1 ∧ Yl (te δ1 s1) (F i) s1) : Yl (eLc h vs g tt te δ s) (vL n F) s1 :=
  lc_eq (s1 := s1) (ds := seqF n f) h1 (by rw [seqF_len]; exact hn) (cLp_map f F (List.range n) fun i hi => hb i (List.mem_range.mp hi))
theorem Yl.lcL {α : Type} {l : List α} {f F : α → D} (h1 : Yl (h δ s) (l.map f) s1) (hn : l.length ≤ 1000000) (hb : ∀ a, a ∈ l → ∃ δ1, g (f a) (wipeE δ vs) = some δ1 ∧ Yl (tt δ1 s1) true s1 ∧ Yl (te δ1 s1) (F a) s1) : Yl (eLc h vs g tt te δ s) (.lst (l.map F)) s1 :=
  lc_eq (s1 := s1) (ds := l.map f) h1 (by rw [List.length_map]; exact hn) (cLp_map f F l fun i hi => hb i hi)
theorem Yl.lcI {α : Type} {l : List α} {t : α → Bool} {f F : α → D} (h1 : Yl (h δ s) (l.map f) s1) (hn : l.length ≤ 1000000) (hb : ∀ a, a ∈ l → ∃ δ1, g (f a) (wipeE δ vs) = some δ1 ∧ Yl (tt δ1 s1) (t a) s1 ∧ (t a = true → Yl (te δ1 s1) (F a) s1)) : Yl (eLc h vs g tt te δ s) (.lst ((l.filter t).map F)) s1 :=
  lc_eq (s1 := s1) (ds := l.map f) h1 (by rw [List.length_map]; exact hn) (cLp_filter f t F l fun i hi => hb i hi)
/-- with draws -/
theorem cLp_draw {α : Type} {P : α → D → Prop} (f : α → D) : ∀ (l : List α) (s : Src), (∀ a, a ∈ l → ∀ s, ∃ d s', P a d ∧ ∃ δ1, g (f a) (wipeE δ vs) = some δ1 ∧ Yl (tt δ1 s) true s ∧ Yl (te δ1 s) d s') →
    ∃ ds s', cLp vs g tt te δ (l.map f) s = some (ds, s') ∧ ds.length = l.length ∧ ∀ (i : Nat) a, l[i]? = some a → ∃ d, ds[i]? = some d ∧ P a d
  | [], s, _ => ⟨[], s, rfl, rfl, fun i a h => by simp at h⟩
  | a :: l, s, hb => by
    obtain ⟨d, s', hp, δ1, e1, e2, e3⟩ := hb a List.mem_cons_self s
    obtain ⟨ds, s2, e4, hl, ha⟩ := cLp_draw f l s' fun b hb' => hb b (List.mem_cons_of_mem _ hb')
    refine ⟨d :: ds, s2, ?_, by simp [hl], fun i b hi => ?_⟩
    · rw [List.map_cons, cLp]
      simp only [bd_ap, e1, of_some, Option.bind_some, e2.eq, if_true, e3.eq, e4, ret_ap]
    · cases i with
      | zero =>
        have : a = b := by simpa using hi
        subst this
        exact ⟨d, rfl, hp⟩
      | succ i => simpa using ha i b (by simpa using hi)
theorem Yl.lcD {P : Nat → D → Prop} {n : Nat} {f : Nat → D} (h1 : Yl (h δ s) (seqF n f) s1) (hn : n ≤ 1000000) (hb : ∀ i, i < n → ∀ s, ∃ d s', P i d ∧ ∃ δ1, g (f i) (wipeE δ vs) = some δ1 ∧ Yl (tt δ1 s) true s ∧ Yl (te δ1 s) d s') :
    ∃ F s', Yl (eLc h vs g tt te δ s) (vL n F) s' ∧ ∀ i, i < n → P i (F i) := by
  obtain ⟨ds, s', e, hl, hp⟩ := cLp_draw (P := P) (vs := vs) (g := g) (tt := tt) (te := te) (δ := δ) f (List.range n) s1 fun i hi => hb i (List.mem_range.mp hi)
  rw [List.length_range] at hl
  have e2 : ds = seqF n fun i => (ds[i]?).getD .non := seqF_ext hl fun i hi => by
    rw [List.getElem?_eq_getElem (by omega)]; rfl
  refine ⟨fun i => (ds[i]?).getD .non, s', ?_, fun i hi => ?_⟩
  · have := lc_eq (vs := vs) (g := g) (tt := tt) (te := te) (s1 := s1) (ds := seqF n f) h1 (by rw [seqF_len]; exact hn) e
    rw [e2] at this
    exact this
  · obtain ⟨d, h2, h3⟩ := hp i i (List.getElem?_range hi)
    show P i ((ds[i]?).getD .non)
    rw [h2]; exact h3
def _root_.DL.D.num : D → Int
  | .int j => j
  | _ => 0
/-- numbers that are drawn -/
theorem Yl.lcDI {P : Nat → Int → Prop} {n : Nat} {f : Nat → D} (h1 : Yl (h δ s) (seqF n f) s1) (hn : n ≤ 1000000) (hb : ∀ i, i < n → ∀ s, ∃ d s', P i d ∧ ∃ δ1, g (f i) (wipeE δ vs) = some δ1 ∧ Yl (tt δ1 s) true s ∧ Yl (te δ1 s) (.int d) s') :
    ∃ (F : Nat → Int) (s' : Src), Yl (eLc h vs g tt te δ s) (vL n fun i => .int (F i)) s' ∧ ∀ i, i < n → P i (F i) := by
  obtain ⟨F, s', e, hp⟩ := Yl.lcD (P := fun i d => ∃ j, d = .int j ∧ P i j) h1 hn fun i hi s => by
    obtain ⟨d, s', q, r⟩ := hb i hi s
    exact ⟨.int d, s', ⟨d, rfl, q⟩, r⟩
  refine ⟨fun i => (F i).num, s', ?_, fun i hi => ?_⟩
  · refine e.cast (vL_congr fun i hi => ?_)
    obtain ⟨j, e, _⟩ := hp i hi
    show F i = .int (F i).num
    rw [e]; rfl
  · obtain ⟨j, e, q⟩ := hp i hi
    show P i (F i).num
    rw [e]; exact q
theorem Yl.for_ {tg : D → Ev → Option Ev} {body : FS} {n : Nat} {f : Nat → D} (I : Nat → Ev → Src → Prop) (h1 : Yl (h δ s) (seqF n f) s1) (h0 : I 0 δ s1)
    (hs : ∀ i δ s, i < n → I i δ s → (f i).lf = true ∧ ∃ δ1, tg (f i) δ = some δ1 ∧ Yx (body δ1 s) (I (i + 1))) : Yx (sFor h tg body δ s) (I n) := by
  obtain ⟨δ', s', e, q⟩ := fLp_invS (tg := tg) (body := body) I (seqF n f) 0 δ s1 h0 fun i d δ s hd hI => by
    obtain ⟨hi, rfl⟩ := seqF_inv hd
    rw [Nat.zero_add] at hI ⊢
    obtain ⟨a, δ1, b, δ2, s2, c, q⟩ := hs i δ s hi hI
    exact ⟨a, δ1, δ2, s2, b, c, q⟩
  rw [seqF_len, Nat.zero_add] at q
  refine ⟨δ', s', ?_, q⟩
  unfold Yl at *
  rw [sFor_ap, h1]; exact e
theorem Yl.forN {tg : D → Ev → Option Ev} {body : FS} {n : Nat} {f : Nat → D} (I : Nat → Ev → Src → Prop) (h1 : Yl (h δ s) (seqF n f) s1) (hn : noOw δ = true) (h0 : I 0 δ s1)
    (hs : ∀ i δ s, i < n → I i δ s → (f i).lf = true ∧ ∃ δ1, tg (f i) δ = some δ1 ∧ Yx (body δ1 s) (I (i + 1))) : Yx (sForN h tg body δ s) (I n) := by
  obtain ⟨δ', s', e, q⟩ := Yl.for_ (h := h) I h1 h0 hs
  refine ⟨δ', s', ?_, q⟩
  unfold Yl at *
  rw [sFor_ap] at e
  rw [sForN_ap, h1, Option.bind_some, if_pos hn]
  rw [h1] at e
  exact e
/-- loops whose turns draw nothing and go on -/
theorem Yl.forK {tg : D → Ev → Option Ev} {body : FS} {α : Type} {l : List α} {f : α → D} (I : Ev → Src → Prop) (h1 : Yl (h δ s) (l.map f) s1) (h0 : I δ s1)
    (hs : ∀ a δ s, a ∈ l → I δ s → (f a).lf = true ∧ ∃ δ1, tg (f a) δ = some δ1 ∧ Yx (body δ1 s) I) : Yx (sFor h tg body δ s) I := by
  obtain ⟨δ', s', e, q⟩ := fLp_invS (tg := tg) (body := body) (fun _ => I) (l.map f) 0 δ s1 h0 fun i d δ s hd hI => by
    rw [List.getElem?_map] at hd
    obtain ⟨a, ha, rfl⟩ := Option.map_eq_some_iff.mp hd
    obtain ⟨x, δ1, b, δ2, s2, c, q⟩ := hs a δ s (List.mem_of_getElem? ha) hI
    exact ⟨x, δ1, δ2, s2, b, c, q⟩
  refine ⟨δ', s', ?_, q⟩
  unfold Yl at *
  rw [sFor_ap, h1]; exact e
theorem Yl.forNK {tg : D → Ev → Option Ev} {body : FS} {α : Type} {l : List α} {f : α → D} (I : Ev → Src → Prop) (h1 : Yl (h δ s) (l.map f) s1) (hn : noOw δ = true) (h0 : I δ s1)
    (hs : ∀ a δ s, a ∈ l → I δ s → (f a).lf = true ∧ ∃ δ1, tg (f a) δ = some δ1 ∧ Yx (body δ1 s) I) : Yx (sForN h tg body δ s) I := by
  obtain ⟨δ', s', e, q⟩ := Yl.forK (h := h) I h1 h0 hs
  refine ⟨δ', s', ?_, q⟩
  unfold Yl at *
  rw [sFor_ap] at e
  rw [sForN_ap, h1, Option.bind_some, if_pos hn]
  rw [h1] at e
  exact e
/-- what follows a statement that goes on -/
theorem Yl.then_ {a b : FS} {P : Ev → Src → Prop} {r : Out} {s2 : Src} (h : Yx (a δ s) P) (h2 : ∀ δ1 s1, P δ1 s1 → Yl (b δ1 s1) r s2) : Yl (sSeq a b δ s) r s2 := by
  obtain ⟨δ1, s1, e, q⟩ := h
  exact Yl.seq e (h2 δ1 s1 q)
theorem Yx.thenX {a b : FS} {P Q : Ev → Src → Prop} (h : Yx (a δ s) P) (h2 : ∀ δ1 s1, P δ1 s1 → Yx (b δ1 s1) Q) : Yx (sSeq a b δ s) Q := by
  obtain ⟨δ1, s1, e, q⟩ := h
  exact Yx.seq e (h2 δ1 s1 q)
end
end DL
set_option Elab.async false
set_option linter.all false
set_option maxRecDepth 100000
set_option maxHeartbeats 4000000
/-! DP: numbers popped in a drawn order. -/
namespace DL
open PySem PySem.Spec PyProof.Rows L2
def shufD : Nat → List Int → Src → Option (List Int × Src)
  | 0, _, s => some ([], s)
  | k + 1, rest, s => if 0 < rest.length ∧ rest.length ≤ 1000 then
      (rest[(take s (rest.length : Nat)).1.toNat]?).bind fun x => (shufD k (rest.eraseIdx (take s (rest.length : Nat)).1.toNat) (take s (rest.length : Nat)).2).map fun p => (x :: p.1, p.2)
    else none
def shufR (n : Int) (rest : List D) (s : Src) : Option (Out × Src) := if 0 ≤ n ∧ n ≤ 1000 then (intL rest).bind fun r => (shufD n.toNat r s).map fun p => (.rt (.tup (p.1.map .int)), p.2) else none
def shufE : Ev → Option (Int × List D)
  | [.rd .src, .rd (.int n), .ow (.lst rest), .no] => some (n, rest)
  | _ => none
theorem shufE_inv {δ : Ev} {p : Int × List D} (h : shufE δ = some p) : δ = [.rd .src, .rd (.int p.1), .ow (.lst p.2), .no] := by
  unfold shufE at h
  split at h
  · cases h; rfl
  · cases h
def sShuf : FS := fun δ s => (shufE δ).bind fun p => shufR p.1 p.2 s
theorem erase_map {α β : Type} (f : α → β) : ∀ (l : List α) (k : Nat), (l.map f).eraseIdx k = (l.eraseIdx k).map f
  | [], k => by simp
  | a :: l, 0 => rfl
  | a :: l, k + 1 => by rw [List.map_cons, List.eraseIdx_cons_succ, List.eraseIdx_cons_succ, List.map_cons, erase_map f l k]
theorem rps_ints {S : Sr} {H : Hp} : ∀ l : List Int, Rps S H (l.map V.int) (l.map D.int) []
  | [] => .nil
  | i :: l => .cons (L := []) (.int i) (rps_ints l)
theorem intL_ds : ∀ {ds : List D} {r : List Int}, intL ds = some r → ds = r.map D.int
  | [], r, h => by cases h; rfl
  | .int i :: ds, r, h => by
    have h : (intL ds).map (i :: ·) = some r := h
    obtain ⟨q, e, rfl⟩ := Option.map_eq_some_iff.mp h
    rw [intL_ds e]; rfl
  | .non :: _, _, h | .bl _ :: _, _, h | .str _ :: _, _, h | .tup _ :: _, _, h | .lst _ :: _, _, h | .src :: _, _, h | .dct _ :: _, _, h | .rng _ _ :: _, _, h | .tupk _ :: _, _, h => by cases h
theorem sShuf_inv {δ : Ev} {st st' : Src} {o : Out} (e : sShuf δ st = some (o, st')) : ∃ n rest, δ = [.rd .src, .rd (.int n), .ow (.lst rest), .no] ∧ shufR n rest st = some (o, st') := by
  obtain ⟨p, e1, e2⟩ := Option.bind_eq_some_iff.mp e
  exact ⟨p.1, p.2, shufE_inv e1, e2⟩
variable {X : Cx}
theorem ds_shuf {elt tg iter : Expr} {scope : Scope} {p lpos pos rpos : Pos} (hc : X.calm = true) (hN : X.N.Nodup) (hi : DIF X tg iter (iOf rg1 (eAs (eVar 1) eAs0))) (ok : BlkOk X.N X.env.scope scope [("k", 3)])
    (hg : ∀ (s : Shared) (H : Hp) (C : Addr) (cl : List (Str × Addr)) (fp : List Addr), DG (X.blk s H scope (compEnvC scope cl C X.env) fp) tg [3] (gN 3))
    (he : ∀ (s : Shared) (H : Hp) (C : Addr) (cl : List (Str × Addr)) (fp : List Addr), PE (X.blk s H scope (compEnvC scope cl C X.env) fp) elt (tBM X.K "list" rPopAt (tVar 2) (tAs (eAs (eFn (fun ds => if ds.length = 2 then F__law_take ds else M.no) (eAs (eVar 0) (eAs (eCall bLen (eAs (eVar 2) eAs0)) eAs0))) eAs0))))
    (hgt : Gl X "tuple") (hm : X.mg "tuple" = none) (hs : ∀ x, foldedSetIterable iter X.env x = pure x := by intro _; rfl)
    (hs1 : starEach [.ListComp elt [⟨tg, iter, [], 0⟩] scope lpos] X.env = (false, eval (.ListComp elt [⟨tg, iter, [], 0⟩] scope lpos) X.env) :: starEach [] X.env := by rfl) (hpl : (backTo pos (starEach [] X.env)).any (·.1) = false := by rfl) :
    DS X (.Return (some (.Call (.Name "tuple" p) [.ListComp elt [⟨tg, iter, [], 0⟩] scope lpos] [] pos)) rpos) sShuf := by
  have lc := pe_lc (pos := lpos) (ifs := []) (tt := tBo bYes) hc hN hi ok hg (fun s H C cl fp => dts_nil) he hs
  refine (ps_ret (pe_callTy call_tuple_of hgt hm PyProof.Rows.boot_tuple (pa_cons lc pa_nil hs1) (he := hs1) (hpl := hpl))).imp fun σ H Q ⟨S, W, H0, δ, st, o, st', rs, so, e, q⟩ => ?_
  obtain ⟨n, rest, eδ, e'⟩ := sShuf_inv e
  clear e
  subst eδ
  have e := e'
  clear e'
  unfold shufR at e
  by_cases hn : 0 ≤ n ∧ n ≤ 1000
  rotate_left
  · rw [if_neg hn] at e; cases e
  rw [if_pos hn] at e
  obtain ⟨r, er, e⟩ := Option.bind_eq_some_iff.mp e
  obtain ⟨⟨all, s2⟩, es, e⟩ := Option.map_eq_some_iff.mp e
  have e1 : Out.rt (.tup (all.map .int)) = o := congrArg Prod.fst e
  have e2 : s2 = st' := congrArg Prod.snd e
  clear e
  subst e1 e2
  have er := intL_ds er
  subst er
  obtain ⟨Λ, hL, hW⟩ := rs.sl
  obtain ⟨v0, s0, r0⟩ := hL 0 .src rfl
  obtain ⟨v1, s1, r1⟩ := hL 1 (.int n) rfl
  obtain ⟨v2, s2', r2⟩ := hL 2 (.lst (r.map .int)) rfl
  have w2 := hW 2 (.lst (r.map .int)) rfl
  obtain ⟨a, vs, L2, ev2, hHa, nha, rvs, eL⟩ := r2.ilst
  subst ev2
  have hWa : W a := (w2.2 a (by rw [eL]; exact List.mem_cons_self)).1
  have evs : vs = r.map V.int := rvs.intL (by rw [intL_ints])
  subst evs
  have ndA : a ≠ S.dA := fun z => nha (z ▸ S.hA)
  have nq : a ≠ S.q := fun z => nha (z ▸ S.hQ)
  have ev0 : v0 = .ref S.dA := by
    generalize Λ 0 = L0 at r0
    cases r0; rfl
  subst ev0
  obtain ⟨ev1, _⟩ := r1.iint
  subst ev1
  have hlen : σ.length = 4 := rs.len
  have ern : rg1 [.int n] = some (rngD 0 n.toNat) := if_pos (by omega)
  refine ⟨S, [.rd .src, .rd (.int n), .ow (.lst (r.map .int)), .no], st, rngD 0 n.toNat, st, rs.rs, so, ?_, fun J H1 La x1 so1 wk fla Dl nD => ?_⟩
  · have : (iOf rg1 (eAs (eVar 1) eAs0)) [.rd .src, .rd (.int n), .ow (.lst (r.map .int)), .no] st = some (rngD 0 n.toNat, st) := by simp [ern, -rg1_F]
    exact this
  have hH1a := x1.lst a _ ndA hHa
  have nDa : Dl ≠ a := fun z => by
    rw [← z, nD] at hH1a
    cases hH1a
  have nDA : Dl ≠ S.dA := fun z => so1.tr _ S.hA (z ▸ nD)
  have nDq : Dl ≠ S.q := fun z => so1.tr _ S.hQ (z ▸ nD)
  have laA : ∀ b, (b = S.dA ∨ b = a) → b ∉ La := fun b e hb => by
    rcases e with rfl | rfl
    · exact (wk.la _ hb).1 S.hA
    · have := fla _ hb
      rw [hHa] at this; cases this
  have nrng : (rngD 0 n.toNat).length = n.toNat := rngD_len _ _
  refine ⟨fun i m H => m = n.toNat - i ∧ i ≤ n.toNat ∧ ∃ acc rst sti ys, H Dl = some (.lst (acc.map V.int)) ∧ H a = some (.lst (rst.map V.int)) ∧ acc.length = i ∧ HE (fun b => b = S.dA ∨ b = a) H1 H ∧ SrcOk (S.hide Dl) H sti ∧ shufD (n.toNat - i) rst sti = some (ys, s2) ∧ acc ++ ys = all,
    ⟨n.toNat, rfl, Nat.zero_le _, [], r, st, all, upd_same, by rw [upd_ne (Ne.symm nDa)]; exact hH1a, rfl, HE.refl.out nD, (so1.ext0 (HE.fresh nD)).hide (by rw [upd_same]; exact fun z => nomatch z), es, rfl⟩, ?_⟩
  rintro i m H2 ⟨rfl, hin, acc, rst, sti, ys, hD, hA, hl, x2, so2, ec2, eall⟩
  have x2' : HE (fun b => b ∉ La) H1 H2 := x2.mono laA
  by_cases hlt : i < n.toNat
  · refine .inr ⟨wk.go i H2 x2' (by rw [nrng]; exact hlt), fun H' => (fun i m H => m = n.toNat - i ∧ i ≤ n.toNat ∧ ∃ acc rst sti ys, H Dl = some (.lst (acc.map V.int)) ∧ H a = some (.lst (rst.map V.int)) ∧ acc.length = i ∧ HE (fun b => b = S.dA ∨ b = a) H1 H ∧ SrcOk (S.hide Dl) H sti ∧ shufD (n.toNat - i) rst sti = some (ys, s2) ∧ acc ++ ys = all) (i + 1) (n.toNat - (i + 1)) H', fun H' hN => ⟨n.toNat - (i + 1), by omega, hN⟩, fun x H3 y => ?_⟩
    obtain ⟨d, Ld, hd, x3, rd, hLd⟩ := wk.yld i H2 x H3 x2' so2.show'.tr (by rw [nrng]; exact hlt) y
    have ed : d = .int (0 + (i : Nat)) := by
      rw [rngD_get _ _ _ hlt] at hd
      exact (Option.some.inj hd).symm
    subst ed
    have so3 : SrcOk (S.hide Dl) H3 sti := so2.ext0 x3
    have hD3 := x3.lst _ _ (fun z => z) hD
    have hA3 := x3.lst _ _ (fun z => z) hA
    have nhid : ¬ (S.hide Dl).hid a := fun z => z.elim nha fun z => nDa z.symm
    have rs3 : Rs (S.hide Dl) H3 σ [.rd .src, .rd (.int n), .rd (.lst (rst.map .int)), .no] := ⟨hlen, fun j d hj => by
      match j with
      | 0 => cases hj; exact ⟨_, _, s0, .src (S := S.hide Dl)⟩
      | 1 => cases hj; exact ⟨_, _, s1, .int _⟩
      | 2 => cases hj; exact ⟨_, _, s2', .lst hA3 nhid (rps_ints rst)⟩
      | 3 => cases hj
      | j + 4 => cases hj⟩
    obtain ⟨k, hk⟩ : ∃ k, n.toNat - i = k + 1 := ⟨n.toNat - i - 1, by omega⟩
    rw [hk, shufD] at ec2
    by_cases hr : 0 < rst.length ∧ rst.length ≤ 1000
    rotate_left
    · rw [if_neg hr] at ec2; cases ec2
    rw [if_pos hr] at ec2
    obtain ⟨z, ez, ec2⟩ := Option.bind_eq_some_iff.mp ec2
    obtain ⟨⟨ys', s4⟩, ey, ec3⟩ := Option.map_eq_some_iff.mp ec2
    have f1 : z :: ys' = ys := congrArg Prod.fst ec3
    have f2 : s4 = s2 := congrArg Prod.snd ec3
    clear ec2 ec3
    subst f1 f2
    have lo := take_lo sti (m := (rst.length : Nat)) (by omega)
    have up := take_hi sti (m := (rst.length : Nat)) (by omega)
    refine ⟨S.hide Dl, _, _, Ld, _, rs3.wipe [3], rd.hide (fun b hb z => ?_), rfl, fun σ2 o2 l2 rs2 => ⟨wipe_eq o2 l2, S.hide Dl, _, sti, true, sti, rs2, so3, rfl, fun H4 x4 so4 => iteT ?_⟩⟩
    · obtain ⟨_, xs, w⟩ := wk.la b (hLd b hb)
      rw [z, nD] at w
      cases w
    have hA4 := x4.lst _ _ (show a ≠ (S.hide Dl).dA from ndA) hA3
    have hD4 := x4.lst _ _ (show Dl ≠ (S.hide Dl).dA from nDA) hD3
    have e22 : σ2[2]? = some (some (.ref a)) := by
      have := o2 2 (by decide)
      rw [this]
      show ((σ.set 3 none))[2]? = _
      rw [List.getElem?_set_ne (by decide)]
      exact s2'
    have rs4 := rs2.extS x4
    refine ⟨.ref a, e22, .inl ⟨rfl, _, SqL.of hA4⟩, S.hide Dl, _, sti, [.int (take sti (rst.length : Nat)).1], (take sti (rst.length : Nat)).2, rs4, so4, ?_, fun vs5 H5 L5 x5 so5 r5 => ?_⟩
    · have dr := draw_eq (s := sti) (m := (rst.length : Nat)) ⟨by omega, by omega⟩
      have hlm : bLen [D.lst (rst.map D.int)] = some (.int (rst.length : Nat)) := by rw [len_lst, List.length_map]
      show (eAs (eFn (fun ds => if ds.length = 2 then F__law_take ds else M.no) (eAs (eVar 0) (eAs (eCall bLen (eAs (eVar 2) eAs0)) eAs0))) eAs0) [.rd .src, .rd (.int n), .rd (.lst (rst.map .int)), .rd (.int (0 + (i : Nat)))] sti = _
      simp [hlm, dr, -len_lst]
    obtain ⟨v5, ev5, r6⟩ := r5.i1
    obtain ⟨ev6, _⟩ := r6.iint
    subst ev5 ev6
    have hA5 := x5.lst _ _ (show a ≠ (S.hide Dl).dA from ndA) hA4
    have hD5 := x5.lst _ _ (show Dl ≠ (S.hide Dl).dA from nDA) hD4
    refine ⟨a, rst.map V.int, _, (take sti (rst.length : Nat)).1.toNat, .int z, rfl, rfl, hA5, by omega, by omega, ?_, by rw [List.getElem?_map, ez]; rfl, acc.map V.int, by rw [upd_ne nDa]; exact hD5, ?_, ?_⟩
    · rw [List.length_map]
      unfold seqIndex?
      simp only
      rw [if_neg (show ¬ (take sti (rst.length : Nat)).1 < 0 by omega), if_pos (by simp only [Bool.and_eq_true, decide_eq_true_eq]; omega)]
    · rw [List.length_map]
      exact Nat.lt_of_lt_of_le (show acc.length < 1000000 by omega) (size_ok (Nat.le_refl _))
    · have so5' : SrcOk (S.hide Dl) (upd H5 a (.lst ((rst.map V.int).eraseIdx (take sti (rst.length : Nat)).1.toNat))) (take sti (rst.length : Nat)).2 := so5.wr nhid
      refine ⟨rfl, hlt, acc ++ [z], rst.eraseIdx (take sti (rst.length : Nat)).1.toNat, _, ys', by rw [upd_same, List.map_append]; rfl, ?_, by rw [List.length_append, hl]; rfl, ?_, so5'.writeN nDA nDq, ?_, by rw [List.append_assoc]; exact eall⟩
      · rw [upd_ne (Ne.symm nDa), upd_same, erase_map]
      · have y1 : HE (fun b => b = S.dA ∨ b = a) H1 H5 := ((x2.trans x3.up0).trans (x4.mono fun b e => .inl e)).trans (x5.mono fun b e => .inl e)
        exact (y1.trans (HE.write hA5 (.inr rfl))).out nD
      · rw [show n.toNat - (i + 1) = k by omega]; exact ey
  · have e0 : n.toNat - i = 0 := by omega
    rw [e0, shufD] at ec2
    have f1 : [] = ys := congrArg Prod.fst (Option.some.inj ec2)
    have f2 : sti = s2 := congrArg Prod.snd (Option.some.inj ec2)
    subst f1 f2
    rw [List.append_nil] at eall
    subst eall
    refine .inl ⟨wk.stop i H2 x2' (by rw [nrng]; omega), Dl, acc.map V.int, rfl, .inl ⟨SqL.of hD, fun l nl => ?_⟩⟩
    have y1 : HE W H0 H2 := (rs.he.trans (x1.mono fun b e => e ▸ rs.wA)).trans (x2.mono fun b e => e.elim (fun e => e ▸ rs.wA) fun e => e ▸ hWa)
    exact q (.ref l) _ [] (y1.trans (HE.fresh nl)) (so2.show'.ext0 (HE.fresh nl)) (.tup (.inl upd_same) (rps_ints acc))
end DL
set_option Elab.async false
set_option linter.all false
set_option maxRecDepth 100000
set_option maxHeartbeats 4000000
/-! DQ: sorted of numbers and of rows of numbers. -/
namespace DL
open PySem PySem.Spec PyProof.Rows L2
/-- Python's order of tuples of numbers -/
def lexLe : List Int → List Int → Bool
  | [], _ => true
  | _ :: _, [] => false
  | a :: x, b :: y => decide (a < b) || (decide (a = b) && lexLe x y)
theorem lex_refl : ∀ x, lexLe x x = true
  | [] => rfl
  | a :: x => by simp [lexLe, lex_refl x]
theorem lex_total : ∀ x y, (lexLe x y || lexLe y x) = true
  | [], _ => by simp [lexLe]
  | _ :: _, [] => by simp [lexLe]
  | a :: x, b :: y => by
    have := lex_total x y
    simp only [lexLe, Bool.or_eq_true, Bool.and_eq_true, decide_eq_true_eq] at *
    rcases Int.lt_trichotomy a b with c | c | c
    · exact .inl (.inl c)
    · subst c
      exact this.elim (fun z => .inl (.inr ⟨rfl, z⟩)) fun z => .inr (.inr ⟨rfl, z⟩)
    · exact .inr (.inl c)
theorem lex_trans : ∀ x y z, lexLe x y = true → lexLe y z = true → lexLe x z = true
  | [], _, _, _, _ => by simp [lexLe]
  | _ :: _, [], _, h, _ => by simp [lexLe] at h
  | _ :: _, _ :: _, [], _, h => by simp [lexLe] at h
  | a :: x, b :: y, c :: z, h1, h2 => by
    have := lex_trans x y z
    simp only [lexLe, Bool.or_eq_true, Bool.and_eq_true, decide_eq_true_eq] at *
    rcases h1 with h1 | ⟨h1, k1⟩ <;> rcases h2 with h2 | ⟨h2, k2⟩
    · exact .inl (by omega)
    · exact .inl (by omega)
    · exact .inl (by omega)
    · exact .inr ⟨by omega, this k1 k2⟩
theorem lex_anti : ∀ x y, lexLe x y = true → lexLe y x = true → x = y
  | [], [], _, _ => rfl
  | [], _ :: _, _, h => by simp [lexLe] at h
  | _ :: _, [], h, _ => by simp [lexLe] at h
  | a :: x, b :: y, h1, h2 => by
    have := lex_anti x y
    simp only [lexLe, Bool.or_eq_true, Bool.and_eq_true, decide_eq_true_eq] at h1 h2
    have e : a = b := by rcases h1 with h1 | ⟨h1, _⟩ <;> rcases h2 with h2 | ⟨h2, _⟩ <;> omega
    subst e
    rw [this (h1.elim (fun z => absurd z (Int.lt_irrefl _)) (·.2)) (h2.elim (fun z => absurd z (Int.lt_irrefl _)) (·.2))]
def sortL (L : List (List Int)) : List (List Int) := L.mergeSort lexLe
def sortI (L : List Int) : List Int := L.mergeSort fun a b => decide (a ≤ b)
theorem sortL_perm (L : List (List Int)) : (sortL L).Perm L := List.mergeSort_perm L _
theorem sortI_perm (L : List Int) : (sortI L).Perm L := List.mergeSort_perm L _
theorem sortL_sorted (L : List (List Int)) : (sortL L).Pairwise fun a b => lexLe a b = true := List.pairwise_mergeSort lex_trans lex_total L
theorem sortI_sorted (L : List Int) : (sortI L).Pairwise fun a b => a ≤ b := by
  have := List.pairwise_mergeSort (le := fun a b : Int => decide (a ≤ b)) (fun a b c h1 h2 => by simp at *; omega) (fun a b => by simp; omega) L
  exact this.imp fun h => of_decide_eq_true h
/-- one list in order -/
theorem perm_same {α : Type} {R : α → α → Prop} : ∀ {l l' : List α}, l.Perm l' → l.Pairwise R → l'.Pairwise R → (∀ a ∈ l, ∀ b ∈ l, R a b → R b a → a = b) → l = l'
  | [], l', h, _, _, _ => (List.nil_perm.mp h).symm
  | a :: l, [], h, _, _, _ => absurd h.symm (fun z => by simpa using List.nil_perm.mp z)
  | a :: l, b :: l', h, p, p', anti => by
    have p1 := List.pairwise_cons.mp p
    have p2 := List.pairwise_cons.mp p'
    have e : a = b := by
      by_cases hab : a = b
      · exact hab
      · have ha : a ∈ l' := by
          have := h.mem_iff.mp (List.mem_cons_self (a := a) (l := l))
          rcases List.mem_cons.mp this with z | z
          · exact absurd z hab
          · exact z
        have hb : b ∈ l := by
          have := h.mem_iff.mpr (List.mem_cons_self (a := b) (l := l'))
          rcases List.mem_cons.mp this with z | z
          · exact absurd z.symm hab
          · exact z
        exact anti a List.mem_cons_self b (List.mem_cons_of_mem _ hb) (p1.1 b hb) (p2.1 a ha)
    subst e
    rw [perm_same (List.perm_cons a |>.mp h) p1.2 p2.2 fun x hx y hy => anti x (List.mem_cons_of_mem _ hx) y (List.mem_cons_of_mem _ hy)]
def tupI : D → Option (List Int)
  | .tup xs => intL xs
  | _ => none
def tupsL : List D → Option (List (List Int))
  | [] => some []
  | d :: ds => (tupI d).bind fun x => (tupsL ds).map (x :: ·)
def okT (L : List (List Int)) : Bool := match L with
  | [] => false
  | a :: _ => decide (1 ≤ a.length) && L.all fun x => decide (x.length = a.length) && x.all fun i => decide (0 ≤ i) && decide (i < 1000000)
def bSorted : List D → Option D
  | [.lst xs] => if xs.length < 64 then (match intL xs with
    | some ns => some (.lst ((sortI ns).map .int))
    | none => (tupsL xs).bind fun L => if okT L = true then some (.lst ((sortL L).map fun x => .tup (x.map .int))) else none) else none
  | _ => none
theorem tupsL_map : ∀ L : List (List Int), tupsL (L.map fun x => .tup (x.map .int)) = some L
  | [] => rfl
  | a :: L => by
    rw [List.map_cons, tupsL]
    show ((intL (a.map D.int)).bind _) = _
    rw [intL_ints, Option.bind_some, tupsL_map L]; rfl
theorem tupsL_ds : ∀ {ds : List D} {L : List (List Int)}, tupsL ds = some L → ds = L.map fun x => .tup (x.map .int)
  | [], L, h => by cases h; rfl
  | d :: ds, L, h => by
    obtain ⟨x, h1, h2⟩ := Option.bind_eq_some_iff.mp h
    obtain ⟨q, e, rfl⟩ := Option.map_eq_some_iff.mp h2
    rw [tupsL_ds e, List.map_cons]
    congr 1
    cases d with
    | tup xs => exact congrArg D.tup (intL_ds h1)
    | _ => cases h1
theorem code_le {B : Int} : ∀ {x y : List Int}, x.length = y.length → TS.Bd B x → TS.Bd B y → (TS.code B x ≤ TS.code B y ↔ lexLe x y = true)
  | [], [], _, _, _ => by simp [TS.code, lexLe]
  | [], _ :: _, h, _, _ => by simp at h
  | _ :: _, [], h, _, _ => by simp at h
  | a :: x, b :: y, h, h1, h2 => by
    have hl : x.length = y.length := by simpa using h
    have ih := code_le hl h1.tail h2.tail
    simp only [lexLe, Bool.or_eq_true, Bool.and_eq_true, decide_eq_true_eq]
    rcases Int.lt_trichotomy a b with c | c | c
    · have := TS.code_lt hl h1.tail h2.tail c
      constructor
      · intro _; exact .inl c
      · intro _; omega
    · subst c
      have q1 := TS.code_same (B := B) (d := a) hl
      have q2 := TS.code_same (B := B) (d := a) hl.symm
      constructor
      · intro z
        refine .inr ⟨rfl, ih.mp ?_⟩
        by_cases w : TS.code B y < TS.code B x
        · have := q2.mpr w; omega
        · omega
      · rintro (z | ⟨_, z⟩)
        · omega
        · have := ih.mpr z
          by_cases w : TS.code B (a :: y) < TS.code B (a :: x)
          · have := q2.mp w; omega
          · omega
    · have := TS.code_lt hl.symm h2.tail h1.tail c
      constructor
      · intro z; omega
      · rintro (z | ⟨z, _⟩) <;> omega
theorem okT_spec {L : List (List Int)} (h : okT L = true) : ∃ d, 1 ≤ d ∧ ∀ x ∈ L, x.length = d ∧ TS.Bd 1000000 x := by
  cases L with
  | nil => cases h
  | cons a L =>
    unfold okT at h
    simp only [Bool.and_eq_true, decide_eq_true_eq, List.all_eq_true] at h
    exact ⟨a.length, h.1, fun x hx => ⟨(h.2 x hx).1, fun m hm => (h.2 x hx).2 m hm⟩⟩
theorem bSorted_inv {ds : List D} {d : D} (h : bSorted ds = some d) : ∃ ys, ds = [.lst ys] := by
  unfold bSorted at h
  split at h
  · exact ⟨_, rfl⟩
  · cases h
variable {X : Cx}
theorem Rps.tups {S : Sr} {H : Hp} : ∀ {L : List (List Int)} {vs : List V} {La : List Addr}, Rps S H vs (L.map fun x => .tup (x.map .int)) La → La = [] ∧ vs.length = L.length ∧ ∀ v ∈ vs, ∃ t x, v = .ref t ∧ x ∈ L ∧ Rd H t (.tup (x.map V.int))
  | [], vs, La, r => by cases r; exact ⟨rfl, rfl, fun _ z => nomatch z⟩
  | x :: L, vs, La, r => by
    cases r with
    | cons r rs =>
      obtain ⟨e, hl, h⟩ := Rps.tups rs
      obtain ⟨t, us, rfl, ht, rus⟩ := r.itup
      have eu : us = x.map V.int := rus.intL (by rw [intL_ints])
      subst eu
      have e2 := rus.nils (lfs_ints x)
      subst e2 e
      refine ⟨rfl, by simp [hl], fun v hv => ?_⟩
      rcases List.mem_cons.mp hv with rfl | hv
      · exact ⟨t, x, rfl, List.mem_cons_self, ht⟩
      · obtain ⟨t, y, e, hy, q⟩ := h v hv
        exact ⟨t, y, e, List.mem_cons_of_mem _ hy, q⟩
/-- the rows of refs -/
theorem Rps.pick {S : Sr} {H : Hp} (f : V → List Int) : ∀ {vs : List V}, (∀ v ∈ vs, ∃ t, v = .ref t ∧ Rd H t (.tup ((f v).map V.int))) → Rps S H vs ((vs.map f).map fun x => .tup (x.map .int)) []
  | [], _ => .nil
  | v :: vs, h => by
    obtain ⟨t, rfl, ht⟩ := h v List.mem_cons_self
    exact .cons (L := []) (.tup ht (rps_ints _)) (Rps.pick f fun w hw => h w (List.mem_cons_of_mem _ hw))
theorem b_sorted (hc : X.calm = true) : CallR X (.builtin "sorted") (rDs bSorted) := by
  intro pins s σ H xs us Q I r w
  obtain ⟨S, ds, d, La, hn, rs, e, q⟩ := w
  obtain ⟨ys, rfl⟩ := bSorted_inv e
  · obtain ⟨v, rfl, r1⟩ := rs.i1
    obtain ⟨a, vs, L', rfl, ha, nh, rvs, eL⟩ := r1.ilst
    by_cases h64 : ys.length < 64
    rotate_left
    · have e : (if ys.length < 64 then _ else none) = some d := e
      rw [if_neg h64] at e; cases e
    have e : (match intL ys with
      | some ns => some (D.lst ((sortI ns).map .int))
      | none => (tupsL ys).bind fun L => if okT L = true then some (.lst ((sortL L).map fun x => .tup (x.map .int))) else none) = some d := by
      have e' : (if ys.length < 64 then _ else none) = some d := e
      rwa [if_pos h64] at e'
    cases ei : intL ys with
    | some ns =>
      rw [ei] at e
      cases e
      have := intL_ds ei
      subst this
      have ev : vs = ns.map V.int := rvs.intL (by rw [intL_ints])
      subst ev
      refine cr_sorted pins s σ H _ _ Q I r ⟨a, ns, rfl, SqL.of ha, by simpa using h64, fun ns' p hp hs np => ?_⟩
      have : ns' = sortI ns := perm_same (hp.trans (sortI_perm ns).symm) hs (sortI_sorted ns) fun a _ b _ h1 h2 => by omega
      subst this
      exact q _ _ [p] (HE.fresh np) (.lst upd_same (fun z => hn _ z np) (rps_ints _))
    | none =>
      rw [ei] at e
      obtain ⟨L, eL2, e5⟩ := Option.bind_eq_some_iff.mp e
      clear e
      have := tupsL_ds eL2
      subst this
      by_cases hk : okT L = true
      rotate_left
      · rw [if_neg hk] at e5; cases e5
      rw [if_pos hk] at e5
      cases e5
      obtain ⟨dd, hd, hL⟩ := okT_spec hk
      obtain ⟨e0, hl, hv⟩ := rvs.tups
      subst e0
      have hv' : ∀ v ∈ vs, ∃ ns, TupI X.K H v ns ∧ ns.length = dd ∧ TS.Bd 1000000 ns := fun v h => by
        obtain ⟨t, x, e1, hx, e2⟩ := hv v h
        exact ⟨x, ⟨t, e1, (.inl e2)⟩, hL x hx⟩
      refine cr_sortT (d := dd) (B := 1000000) hd pins s σ H _ _ Q I r ⟨a, vs, rfl, SqL.of ha, by rw [hl]; simpa using h64, hv', fun ws p hp hs np => ?_⟩
      -- a function that reads the rows
      let f : V → List Int := fun v => match v with
        | .ref t => match H t with
          | some (.tup zs) => (zs.filterMap fun z => match z with | .int i => some i | _ => none)
          | some (.frz _ (.tup zs)) => (zs.filterMap fun z => match z with | .int i => some i | _ => none)
          | _ => []
        | _ => []
      have ff : ∀ (t : Addr) (x : List Int), Rd H t (.tup (x.map V.int)) → f (.ref t) = x := fun t x h => by
        show (match H t with
          | some (.tup zs) => (zs.filterMap fun z => match z with | .int i => some i | _ => none)
          | some (.frz _ (.tup zs)) => (zs.filterMap fun z => match z with | .int i => some i | _ => none)
          | _ => []) = x
        rcases h with h | ⟨o, h⟩
        · rw [h]
          show (x.map V.int).filterMap _ = x
          rw [List.filterMap_map]
          exact List.filterMap_some
        · rw [h]
          show (x.map V.int).filterMap _ = x
          rw [List.filterMap_map]
          exact List.filterMap_some
      have hf : ∀ v ∈ vs, ∃ t, v = .ref t ∧ Rd H t (.tup ((f v).map V.int)) ∧ f v ∈ L := fun v h => by
        obtain ⟨t, x, e1, hx, e2⟩ := hv v h
        subst e1
        exact ⟨t, rfl, by rw [ff t x e2]; exact e2, by rw [ff t x e2]; exact hx⟩
      have hfw : ∀ v ∈ ws, ∃ t, v = .ref t ∧ Rd H t (.tup ((f v).map V.int)) ∧ f v ∈ L := fun v h => hf v (hp.mem_iff.mp h)
      have eV : vs.map f = L := by
        have r2 := Rps.pick (S := S) (H := H) f (vs := vs) fun v h => by
          obtain ⟨t, e1, e2, _⟩ := hf v h
          exact ⟨t, e1, e2⟩
        clear hs hp
        have : ∀ {L : List (List Int)} {vs : List V} {La : List Addr}, Rps S H vs (L.map fun x => .tup (x.map .int)) La → vs.map f = L := by
          intro L
          induction L with
          | nil => intro vs La r; cases r; rfl
          | cons x L ih =>
            intro vs La r
            cases r with
            | cons r rs =>
              obtain ⟨t, us, rfl, ht, rus⟩ := r.itup
              have eu : us = x.map V.int := rus.intL (by rw [intL_ints])
              subst eu
              rw [List.map_cons, ff t x ht, ih rs]
        exact this rvs
      have eW : ws.map f = sortL L := by
        refine perm_same (R := fun a b => lexLe a b = true) ((hp.map f).trans (by rw [eV]; exact (sortL_perm L).symm)) ?_ (sortL_sorted L) fun a _ b _ => lex_anti a b
        rw [List.pairwise_map]
        refine List.Pairwise.imp_of_mem (fun {x y} hx hy h => ?_) hs
        obtain ⟨t, e1, e2, e3⟩ := hfw x hx
        obtain ⟨u, g1, g2, g3⟩ := hfw y hy
        refine (code_le (B := 1000000) (by rw [(hL _ e3).1, (hL _ g3).1]) (hL _ e3).2 (hL _ g3).2).mp (h _ _ ⟨t, e1, (.inl e2)⟩ ⟨u, g1, (.inl g2)⟩)
      have rr : Rps S H ws ((sortL L).map fun x => .tup (x.map .int)) [] := by
        rw [← eW]
        exact Rps.pick f fun v h => by
          obtain ⟨t, e1, e2, _⟩ := hfw v h
          exact ⟨t, e1, e2⟩
      exact q _ _ [p] (HE.fresh np) (.lst upd_same (fun z => hn _ z np) (rr.ext0 (HE.fresh np)))
end DL
set_option Elab.async false
set_option linter.all false
set_option maxRecDepth 100000
set_option maxHeartbeats 4000000
/-! DR: any and all over numbers. -/
namespace DL
open PySem PySem.Spec PyProof.Rows L2
def bAnyI : List D → Option D
  | [d] => (d.items.bind intL).map fun ns => .bl (ns.any fun n => n != 0)
  | _ => none
def bAllI : List D → Option D
  | [d] => (d.items.bind intL).map fun ns => .bl (ns.all fun n => n != 0)
  | _ => none
theorem pys_ints (ns : List Int) : pys (ns.map D.int) = ns.map PyData.int := by
  induction ns with
  | nil => rfl
  | cons n ns ih => rw [List.map_cons, pys, ih]; rfl
variable {X : Cx}
theorem any_core {pins : List (Addr × Obj)} {s : Shared} {σ : L2.St} {H : Hp} {u : Value} {Q : VK} (I : L2.Inv X pins σ H s) {S : Sr} {v : V} {d : D} {L : List Addr} {ns : List Int} (r : Rp S H v d L) (e : d.items.bind intL = some ns) (ru : RelV v u) :
    ∃ l its as, u = .ref l ∧ (s.heap.IsList l its ∨ s.heap.IsTuple l its) ∧ ReadsAll s.heap its.toList (ns.map PyData.int) as := by
  obtain ⟨xs, e1, e2⟩ := Option.bind_eq_some_iff.mp e
  obtain ⟨p, vs, L', rfl, ho, rr⟩ := r.items e1
  have := intL_ds e2
  subst this
  cases ru
  have hz : ∃ its : List Value, Vals vs its ∧ (s.heap.IsList p its.toArray ∨ s.heap.IsTuple p its.toArray) := by
    rcases ho with ho | ho
    · obtain ⟨its, rv, hl, _⟩ := I.list (.inl ho : SqL X.K H p vs)
      exact ⟨its, rv, .inl hl.isList⟩
    · obtain ⟨its, rv, ht, _⟩ := I.tuple (.inl ho : SqT X.K H p vs)
      exact ⟨its, rv, .inr ht⟩
  obtain ⟨its, rv, hl⟩ := hz
  obtain ⟨as, q1⟩ := Dp.readsAll (X := X) I (pys (ns.map D.int)) vs its (rr.dp 8 fun x hx => by
    obtain ⟨i, _, rfl⟩ := List.mem_map.mp hx
    rfl) rv
  rw [pys_ints] at q1
  exact ⟨p, its.toArray, as, rfl, hl, by simpa using q1⟩
theorem plain_ints : ∀ ns : List Int, PyData.plainAll (ns.map PyData.int) = true
  | [] => rfl
  | n :: ns => by
    rw [List.map_cons, PyData.plainAll, plain_ints ns]; rfl
theorem b_anyI (hc : X.calm = true) : CallR X (.builtin "any") (rDs bAnyI) := by
  intro pins s σ H xs us Q I r ⟨S, ds, d, La, hn, rs, e, q⟩
  match ds, e with
  | [a], e =>
    obtain ⟨ns, e1, e2⟩ := Option.map_eq_some_iff.mp (show (a.items.bind intL).map (fun ns => D.bl (ns.any fun n => n != 0)) = some d from e)
    subst e2
    obtain ⟨v, rfl, r1⟩ := rs.i1
    obtain ⟨u, rfl, ru⟩ := vals1 r
    obtain ⟨l, its, as, rfl, hl, ra⟩ := any_core (Q := Q) I r1 e1 ru
    have fin : ∀ h' tk, (∀ b o, s.heap.get? b = some o → h'.get? b = some o) → EP X pins σ Q (.bool ((ns.map PyData.int).any PyData.truthy)) { s with heap := h', toks := tk } := fun h' tk hk => by
      refine ⟨.bl _, H, I.kept hk, rfl, ?_⟩
      have : (ns.map PyData.int).any PyData.truthy = ns.any fun n => n != 0 := by
        rw [List.any_map]; rfl
      rw [this]
      exact q _ _ [] HE.refl (.bl _)
    have hf : ∀ x ∈ ns.map PyData.int, x.fits63 := fun x hx => by
      obtain ⟨i, _, rfl⟩ := List.mem_map.mp hx
      trivial
    rcases hl with hl | hl
    · exact PySem.W.any_list_data (I.ok.hd hc) hl ra (plain_ints ns) hf fin
    · exact PySem.W.any_tuple_data (I.ok.hd hc) hl ra (plain_ints ns) hf fin
theorem b_allI (hc : X.calm = true) : CallR X (.builtin "all") (rDs bAllI) := by
  intro pins s σ H xs us Q I r ⟨S, ds, d, La, hn, rs, e, q⟩
  match ds, e with
  | [a], e =>
    obtain ⟨ns, e1, e2⟩ := Option.map_eq_some_iff.mp (show (a.items.bind intL).map (fun ns => D.bl (ns.all fun n => n != 0)) = some d from e)
    subst e2
    obtain ⟨v, rfl, r1⟩ := rs.i1
    obtain ⟨u, rfl, ru⟩ := vals1 r
    obtain ⟨l, its, as, rfl, hl, ra⟩ := any_core (Q := Q) I r1 e1 ru
    have fin : ∀ h' tk, (∀ b o, s.heap.get? b = some o → h'.get? b = some o) → EP X pins σ Q (.bool ((ns.map PyData.int).all PyData.truthy)) { s with heap := h', toks := tk } := fun h' tk hk => by
      refine ⟨.bl _, H, I.kept hk, rfl, ?_⟩
      have : (ns.map PyData.int).all PyData.truthy = ns.all fun n => n != 0 := by
        rw [List.all_map]; rfl
      rw [this]
      exact q _ _ [] HE.refl (.bl _)
    have hf : ∀ x ∈ ns.map PyData.int, x.fits63 := fun x hx => by
      obtain ⟨i, _, rfl⟩ := List.mem_map.mp hx
      trivial
    rcases hl with hl | hl
    · exact PySem.W.all_list_data (I.ok.hd hc) hl ra (plain_ints ns) hf fin
    · exact PySem.W.all_tuple_data (I.ok.hd hc) hl ra (plain_ints ns) hf fin
@[simp] theorem anyI_F (n : Nat) (f : Nat → Int) : bAnyI [vT n fun i => .int (f i)] = some (.bl (anyF n fun i => f i != 0)) := by
  show ((some (seqF n fun i => .int (f i))).bind intL).map _ = _
  rw [Option.bind_some, intL_F, Option.map_some]
  unfold numL anyF
  rw [List.any_map]; rfl
@[simp] theorem anyI_L (n : Nat) (f : Nat → Int) : bAnyI [vL n fun i => .int (f i)] = some (.bl (anyF n fun i => f i != 0)) := anyI_F n f
end DL
set_option Elab.async false
set_option linter.all false
set_option maxRecDepth 100000
set_option maxHeartbeats 4000000
/-! DS: x[k] += a list, x a list of lists. -/
namespace DL
open PySem PySem.Spec PyProof.Rows L2
theorem list_iadd_slot : typeLookup (.type "list") (dunderI "add") = pure (some (.builtin "list.__iadd__")) := by rw [typeLookup_type, builtinLookup_eq_fast]; kernel_rfl
theorem list_add_slot : typeLookup (.type "list") (dunder "add") = pure (some (.builtin "list.__add__")) := by rw [typeLookup_type, builtinLookup_eq_fast]; kernel_rfl
theorem list_addR_slot : typeLookup (.type "list") (dunderR "add") = pure none := by rw [typeLookup_type, builtinLookup_eq_fast]; kernel_rfl
theorem list_fill : fillsNumberSlot (.type "list") "add" = pure false := PySem.fillsNumberSlot_seq list_add_slot (by decide +kernel) list_addR_slot rfl
section
variable {M : Model} {A : Around} {E : Value → Shared → Prop} {s : Shared}
theorem iadd_lists {a b : Value} {Q : Value → Shared → Prop} (ha : s.TypeIs a "list") (hb : s.TypeIs b "list")
    (hc : wpAny M A (call (.builtin "list.__iadd__") [a, b]) Q E s) : wpAny M A (inplaceOp .Add a b) Q E s := by
  unfold inplaceOp
  refine wpAny_holding ?_
  have hfi : fillsInplaceSlot (.type "list") "add" (Operator.Add == .Add) = pure false := by
    unfold fillsInplaceSlot
    show (typeLookup (.type "list") (dunderI "add") >>= fun fi => pure (fi.isSome && !isSeqSlot fi)) = pure false
    rw [list_iadd_slot]
    show (pure ((some (Value.builtin "list.__iadd__")).isSome && !isSeqSlot (some (Value.builtin "list.__iadd__"))) : Sem Bool) = pure false
    have : ((some (Value.builtin "list.__iadd__")).isSome && !isSeqSlot (some (Value.builtin "list.__iadd__"))) = false := by decide +kernel
    rw [this]
  have hsi : seqSlot? (.type "list") (dunderI "add") = pure (some (.builtin "list.__iadd__")) := PySem.seqSlot_of list_iadd_slot (by decide +kernel)
  refine wpAny_bind (wpAny_typeOf ha (wpAny_bind (wpAny_of_eq hfi ?_)))
  show wpAny M A (if false = true then _ else _) Q E s
  rw [if_neg Bool.false_ne_true]
  refine wpAny_bind (wpAny_binaryOp1_none (nm := "add") ha hb list_fill ?_)
  refine wpAny_bind (wpAny_of_eq hsi ?_)
  exact wpAny_bind (wpAny_rule hc)
end
variable {X : Cx}
def ipL : TIp := fun x y H Q => ∃ l b xs zs, x = .ref l ∧ y = .ref b ∧ H l = some (.lst xs) ∧ H b = some (.lst zs) ∧ xs.length + zs.length ≤ sizeLine ∧ Q (.ref l) (upd H l (.lst (xs ++ zs)))
theorem ip_addL : PIp X .Add ipL := by
  intro pins s σ H x y v u Q I rx ry h
  obtain ⟨l, b, xs, zs, rfl, rfl, hH, hB, hz, q⟩ := h
  cases rx
  cases ry
  obtain ⟨z, its, n, r, hl, e⟩ := I.lstM hH
  obtain ⟨z2, its2, n2, r2, hl2, e2⟩ := I.lstM hB
  have hsz : its.toArray.size + its2.toArray.size ≤ sizeLine := by rw [List.size_toArray, List.size_toArray]; omega
  have hlong : ¬ (!its.toArray.isEmpty && Builtin.List.listTooLong (its.toArray.size + its2.toArray.size)) = true := by
    rw [notLongL hsz, Bool.and_false]
    exact Bool.false_ne_true
  refine iadd_lists ⟨_, e, rfl⟩ ⟨_, e2, rfl⟩ ?_
  refine call_meets F.slot_list_iadd ⟨_, e, rfl⟩ F.entry_list_iadd (F.args_list_iadd_2 _ _)
    (AutoSeq1.list___iadd___list_list_0 l its.toArray n b its2.toArray n2 hlong (by rw [List.size_toArray]; omega) (by omega)) ⟨e, e2, ?_⟩
  refine ⟨.ref l, _, I.lset (its' := its ++ its2) hH e (by simp) (r.append r2) ?_, rfl, q⟩
  rw [List.length_append]
  omega
def tgetL (K : PySem.W.Frag) : V → V → Hp → VK → Prop := fun o i H Q => ∃ p xs k j v, o = .ref p ∧ i = .int k ∧ H p = some (.lst xs) ∧ ixN xs.length k = some j ∧ 0 ≤ k ∧ xs[j]? = some v ∧ Q v H
theorem get_list : PGet X (tgetL X.K) := by
  intro pins s σ H o i ov iv Q I ro ri h
  obtain ⟨p, xs, k, j, v, rfl, rfl, hp, hj, h0, hv, q⟩ := h
  cases ro
  obtain ⟨t, rfl⟩ := ri
  obtain ⟨its, n, r, ho, hz⟩ := I.lst hp
  obtain ⟨h1, h2, h3, h4⟩ := ixN_seq hj
  have hl := r.length
  have hn := line63
  obtain ⟨w, hw, rw'⟩ := r.get hv
  have hk : k.toNat = j := by
    rw [seqIndex_of h0 h4] at h1
    exact Option.some.inj h1
  refine wpAny_getItem_list (items := its.toArray) ⟨_, ho, rfl, n, rfl⟩ h0 (by omega) (by rw [hk]; simpa using hw) ⟨v, H, I, rw', q⟩
/-- x[k] += f -/
def extR (δ : Ev) (i : Nat) (ds : List D) (n : Int) (fs : List D) : Option Out := (ixN ds.length n).bind fun j => match ds[j]? with
  | some (.lst es) => if 0 ≤ n ∧ lfs es = true ∧ lfs fs = true ∧ es.length + fs.length ≤ 1000000 then some (.nx (δ.set i (.ow (.lst (ds.set j (.lst (es ++ fs))))))) else none
  | _ => none
def ext3 : Option Sl → D → D → Option (List D × Int × List D)
  | some (.ow (.lst ds)), .int n, .lst fs => some (ds, n, fs)
  | _, _, _ => none
theorem ext3_inv {a : Option Sl} {b c : D} {p : List D × Int × List D} (h : ext3 a b c = some p) : a = some (.ow (.lst p.1)) ∧ b = .int p.2.1 ∧ c = .lst p.2.2 := by
  unfold ext3 at h
  split at h
  · cases h; exact ⟨rfl, rfl, rfl⟩
  · cases h
def sExt (i : Nat) (fk f : FE) : FS := fun δ => (fk δ).bd fun k => (f δ).bd fun d => M.of ((ext3 δ[i]? k d).bind fun p => extR δ i p.1 p.2.1 p.2.2)
theorem upd_id {H : Hp} {a : Addr} {o : HO} (h : H a = some o) : upd H a o = H := by
  funext b
  by_cases e : b = a
  · subst e; rw [upd_same, h]
  · rw [upd_ne e]
theorem ds_ext {i : Nat} {x : Str} {k e : Expr} {fk f : FE} {p tpos pos : Pos} (hi : X.N[i]? = some x) (hv : Vis X.env.scope x) (hk : DE X k fk) (he : DE X e f)
    (ha : ∀ ov iv new, augStore k ov iv new = (do holding [new, ov, iv] (setItem ov iv new); release [new, ov, iv] []; pure Flow.next) := by intros; rfl)
    (hd : (x == ("__debug__" : Str)) = false := by decide) (hcd : (x == ("__classdict__" : Str)) = false := by decide) : DS X (.AugAssign (.Subscript (.Name x p) k tpos) .Add e pos) (sExt i fk f) :=
  (ps_augS (pe_var hi hv hd hcd) hk get_list he ip_addL set_list ha).imp fun σ H Q ⟨S, W, H0, δ, st, o, st', rs, so, e, q⟩ => by
  obtain ⟨kd, s1, ea, e1⟩ := bd_inv e
  obtain ⟨fd, s2, eb, e2⟩ := bd_inv e1
  obtain ⟨e3, e4⟩ := of_inv e2
  clear e e1 e2
  subst e4
  obtain ⟨⟨ds, n, fs⟩, e5, e6⟩ := Option.bind_eq_some_iff.mp e3
  clear e3
  obtain ⟨ei, ek, ef⟩ := ext3_inv e5
  simp only at ei ek ef e6
  subst ek ef
  clear e5
  obtain ⟨j, ej, e7⟩ := Option.bind_eq_some_iff.mp e6
  clear e6
  cases edj : ds[j]? with
  | none => rw [edj] at e7; cases e7
  | some dj =>
    rw [edj] at e7
    match dj, e7 with
    | .lst es, e7 =>
      have e7 : (if 0 ≤ n ∧ lfs es = true ∧ lfs fs = true ∧ es.length + fs.length ≤ 1000000 then some (Out.nx (δ.set i (.ow (.lst (ds.set j (.lst (es ++ fs))))))) else none) = some o := e7
      by_cases hl : 0 ≤ n ∧ lfs es = true ∧ lfs fs = true ∧ es.length + fs.length ≤ 1000000
      rotate_left
      · rw [if_neg hl] at e7; cases e7
      rw [if_pos hl] at e7
      have e8 := Option.some.inj e7
      clear e7
      subst e8
      obtain ⟨l0, l1, l2, l3⟩ := hl
      obtain ⟨a, vs, L, hσ, hH, nh, rr, nd⟩ := rs.own ei
      refine ⟨.ref a, hσ, S, δ, st, _, _, rs.rs, so, ea, fun w H2 L2' x2 so2 r2 => ?_⟩
      obtain ⟨rfl, rfl⟩ := r2.iint
      have hH2 : H2 a = some (.lst vs) := x2.lst _ _ (fun z => nh (z ▸ S.hA)) hH
      have rr2 := rr.extS x2
      obtain ⟨u, L3, hu, ru, hL3⟩ := rr2.get edj
      obtain ⟨b, ws, L4, rfl, hb, nb, rb, rfl⟩ := ru.ilst
      have hL4 := rb.nils l1
      subst hL4
      have bL : b ∈ L := hL3 b List.mem_cons_self
      refine ⟨a, vs, n, j, .ref b, rfl, rfl, hH2, by rw [rr2.len]; exact ej, l0, hu, S, δ, s1, _, _, (rs.ext x2).rs, so2, eb, fun w2 H3 L5 x3 so3 r3 => ?_⟩
      obtain ⟨c, zs, L6, rfl, hc, nc, rc, rfl⟩ := r3.ilst
      have hL6 := rc.nils l2
      subst hL6
      have hH3 : H3 a = some (.lst vs) := x3.lst _ _ (fun z => nh (z ▸ S.hA)) hH2
      have hb3 : H3 b = some (.lst ws) := x3.lst _ _ (fun z => nb (z ▸ S.hA)) hb
      have rr3 := rr2.extS x3
      have rb3 := rb.extS x3
      have nd' := List.nodup_cons.mp nd
      have hab : a ≠ b := fun z => nd'.1 (z ▸ bL)
      refine ⟨b, c, ws, zs, rfl, rfl, hb3, hc, by rw [rb.len, rc.len]; exact Nat.le_trans l3 (size_ok (Nat.le_refl _)), ?_⟩
      have hHa : (upd H3 b (.lst (ws ++ zs))) a = some (.lst vs) := by rw [upd_ne hab]; exact hH3
      refine ⟨a, vs, n, j, rfl, rfl, hHa, by rw [rr2.len]; exact ej, ?_⟩
      have evs : vs.set j (.ref b) = vs := by
        refine List.ext_getElem? fun m => ?_
        by_cases hm : m = j
        · subst hm
          rw [List.getElem?_set_self (List.getElem?_eq_some_iff.mp hu).1, hu]
        · rw [List.getElem?_set_ne (fun z => hm z.symm)]
      rw [evs, upd_id hHa]
      have rn : Rps S (upd H3 b (.lst (ws ++ zs))) (ws ++ zs) (es ++ fs) [] := (rb3.append rc).ext (HE.writeN hb3) fun _ z => nomatch z
      have rt := rr3.setIn (us' := ws ++ zs) (es' := es ++ fs) j nd'.2 edj hu hb3 rn l1
      exact q σ _ ((rs.ext (x2.trans x3)).wrT ei hσ (.lst hH3 nh rr3) (List.mem_cons_of_mem _ bL) hb3 (.lst hHa nh rt) nd (fun c hc => hc)) (so3.wr nb)
    | .non, e7 => cases e7
    | .bl _, e7 => cases e7
    | .int _, e7 => cases e7
    | .str _, e7 => cases e7
    | .tup _, e7 => cases e7
    | .src, e7 => cases e7
    | .dct _, e7 => cases e7
    | .rng _ _, e7 => cases e7
    | .tupk _, e7 => cases e7
/-- two lists' things as a new list -/
def catF : D → D → Option D
  | .lst xs, .lst ys => if xs.length + ys.length ≤ 1000000 ∧ lfs xs = true ∧ lfs ys = true then some (.lst (xs ++ ys)) else none
  | _, _ => none
theorem catF_inv {a b d : D} (h : catF a b = some d) : ∃ xs ys, a = .lst xs ∧ b = .lst ys ∧ (xs.length + ys.length ≤ 1000000 ∧ lfs xs = true ∧ lfs ys = true) ∧ d = .lst (xs ++ ys) := by
  unfold catF at h
  split at h
  · split at h
    · rename_i q
      cases h
      exact ⟨_, _, rfl, rfl, q, rfl⟩
    · cases h
  · cases h
theorem df_cat {a b : Expr} {f g : FE} {pos : Pos} (ha : DE X a f) (hb : DE X b g) : DF X (.BinOp a .Add b pos) (e2 catF f g) :=
  (pe_op op_cat ha hb).imp fun σ H Q ⟨S, δ, st, d, st', rs, so, e, q⟩ => by
  obtain ⟨x, s1, ea, e1⟩ := bd_inv e
  obtain ⟨y, s2, eb, e2⟩ := bd_inv e1
  obtain ⟨eo, es⟩ := of_inv e2
  clear e e1 e2
  subst es
  obtain ⟨xs, ys, rfl, rfl, ⟨h1, h2, h3⟩, rfl⟩ := catF_inv eo
  refine ⟨S, δ, st, _, s1, rs, so, ea, fun v H1 L1 x1 so1 r1 => ⟨S, δ, s1, _, _, rs.extS x1, so1, eb, fun w H2 L2 x2 so2 r2 => ?_⟩⟩
  obtain ⟨a, vs, L1', rfl, ea', na, rsa, rfl⟩ := (r1.extS x2).ilst
  obtain ⟨b, ws, L2', rfl, eb', nb, rsb, rfl⟩ := r2.ilst
  have l1 := rsa.nils h2
  have l2 := rsb.nils h3
  subst l1 l2
  refine ⟨_, _, _, _, rfl, rfl, ea', eb', size_ok (by rw [rsa.len, rsb.len]; exact h1), fun p np => ?_⟩
  exact q _ _ [p] (x1.trans (x2.trans (HE.fresh np))) (so2.ext0 (HE.fresh np)) (.lst upd_same (fun z => so2.tr _ z np) ((rsa.append rsb).ext0 (HE.fresh np))) (by simp) fun c hc => by
    have : c = p := by simpa using hc
    exact this ▸ x1.new _ (x2.new _ np)
@[simp high] theorem catF_F {n m : Nat} {f g : Nat → D} [a : LfF f] [b : LfF g] (h : n + m ≤ 1000) : catF (vL n f) (vL m g) = some (vL (n + m) fun i => if i < n then f i else g (i - n)) := by
  unfold vL
  show (if _ then _ else _) = _
  rw [if_pos ⟨by rw [seqF_len, seqF_len]; omega, lfs_seqF a.h, lfs_seqF b.h⟩]
  congr 2
  refine seqF_ext (by rw [List.length_append, seqF_len, seqF_len]) fun i hi => ?_
  by_cases h1 : i < n
  · rw [List.getElem?_append_left (by rw [seqF_len]; exact h1), seqF_get h1, if_pos h1]
  · rw [List.getElem?_append_right (by rw [seqF_len]; omega), seqF_len, seqF_get (by omega), if_neg h1]
end DL
set_option Elab.async false
set_option linter.all false
set_option maxRecDepth 100000
set_option maxHeartbeats 4000000
/-! DT: walks over new lists, tuples repeated, list(range(a, b)). -/
namespace DL
open PySem PySem.Spec PyProof.Rows L2
variable {X : Cx}
def lstI : D → Option (List D)
  | .lst xs => some xs
  | _ => none
theorem lstI_inv {d : D} {xs : List D} (h : lstI d = some xs) : d = .lst xs := by
  cases d with
  | lst ys => cases h; rfl
  | _ => cases h
def iSeqL (f : FE) : FI := fun δ => (f δ).bd fun d => M.of (lstI d)
theorem dif_fresh {tg e : Expr} {f : FE} (he : DF X e f) : DIF X tg e (iSeqL f) := (pi_list he).imp fun σ H R ⟨S, δ, st, ds, st', rs, so, e, q⟩ => by
  obtain ⟨d, s1, ea, e1⟩ := bd_inv e
  obtain ⟨eo, es⟩ := of_inv e1
  clear e e1
  subst es
  have ed := lstI_inv eo
  subst ed
  refine ⟨S, δ, st, _, _, rs, so, ea, fun v H1 L x1 so1 r nd fr => ?_⟩
  obtain ⟨a, vs, L1, rfl, ha, na, rs', rfl⟩ := r.ilst
  exact ⟨a, rfl, ⟨vs, SqL.of ha⟩, q _ H1 _ x1 so1 (wk_lst ha na rs') fr⟩
@[simp] theorem iSeqL_ap (f : FE) (δ : Ev) (s : Src) : iSeqL f δ s = (f δ s).bind fun p => M.of (lstI p.1) p.2 := by simp [iSeqL]
@[simp] theorem lstI_l (xs : List D) : lstI (.lst xs) = some xs := rfl
@[simp] theorem lstI_F (n : Nat) (f : Nat → D) : lstI (vL n f) = some (seqF n f) := rfl
/-- a tuple, repeated -/
def dMulT : D → D → Option D
  | .tup xs, .int k => if 2 ≤ k ∧ k ≤ 1000 ∧ xs ≠ [] ∧ xs.length ≤ 1000 ∧ lfs xs = true then some (.tup (List.replicate k.toNat xs).flatten) else none
  | _, _ => none
theorem dMulT_inv {a b d : D} (h : dMulT a b = some d) : ∃ xs k, a = .tup xs ∧ b = .int k ∧ (2 ≤ k ∧ k ≤ 1000 ∧ xs ≠ [] ∧ xs.length ≤ 1000 ∧ lfs xs = true) ∧ d = .tup (List.replicate k.toNat xs).flatten := by
  unfold dMulT at h
  split at h
  · split at h
    · rename_i q
      cases h
      exact ⟨_, _, rfl, rfl, q, rfl⟩
    · cases h
  · cases h
theorem o_mulT : OpR X (binaryOp .Mult) (rD2 dMulT) := op_repT.imp fun x y H Q ⟨S, a, b, d, La, Lb, hn, ra, rb, e, q⟩ => by
  obtain ⟨xs, k, rfl, rfl, ⟨h1, h2, h3, h4, h5⟩, rfl⟩ := dMulT_inv e
  obtain ⟨t, vs, rfl, ht, rs⟩ := ra.itup
  obtain ⟨rfl, rfl⟩ := rb.iint
  have hL := rs.nils h5
  subst hL
  refine ⟨t, k, vs, rfl, rfl, (.inl ht), fun z => h3 (by
    have := rs.len
    rw [z] at this
    exact List.length_eq_zero_iff.mp this.symm), h1, h2, by rw [rs.len]; exact h4, fun p np => ?_⟩
  exact q _ _ [] (HE.fresh np) (.tup (.inl upd_same) ((rs.repl k.toNat).ext0 (HE.fresh np)))
/-- list(range(a, b)) -/
def rngL (mk : List D → D) : D → D → Option D
  | .int i, .int j => if 0 ≤ i ∧ i.natAbs ≤ 1000000 ∧ 0 ≤ j ∧ j.natAbs ≤ 1000000 then some (mk (rngD i (j - i).toNat)) else none
  | _, _ => none
theorem rngL_inv {mk : List D → D} {a b d : D} (h : rngL mk a b = some d) : ∃ i j, a = .int i ∧ b = .int j ∧ (0 ≤ i ∧ i.natAbs ≤ 1000000 ∧ 0 ≤ j ∧ j.natAbs ≤ 1000000) ∧ d = mk (rngD i (j - i).toNat) := by
  unfold rngL at h
  split at h
  · split at h
    · rename_i q
      cases h
      exact ⟨_, _, rfl, rfl, q, rfl⟩
    · cases h
  · cases h
def eLstR2 (f g : FE) : FE := e2 (rngL .lst) f g
def eTupR2 (f g : FE) : FE := e2 (rngL .tup) f g
theorem df_lstR2 {a b : Expr} {f g : FE} {p p2 pos pos2 : Pos} (hc : X.calm = true) (hg : Gl X "list") (hm : X.mg "list" = none) (hg2 : Gl X "range") (hm2 : X.mg "range" = none) (ha : DE X a f) (hb : DE X b g)
    (na : starEach [a, b] X.env = (false, eval a X.env) :: starEach [b] X.env := by rfl) (nb : starEach [b] X.env = (false, eval b X.env) :: starEach [] X.env := by rfl) (hp : (backTo pos2 (starEach [b] X.env)).any (·.1) = false := by rfl)
    (na2 : starEach [.Call (.Name "range" p2) [a, b] [] pos2] X.env = (false, eval (.Call (.Name "range" p2) [a, b] [] pos2) X.env) :: starEach [] X.env := by rfl) :
    DF X (.Call (.Name "list" p) [.Call (.Name "range" p2) [a, b] [] pos2] [] pos) (eLstR2 f g) := (pe_listRg hc hg hm (prg_2 hg2 hm2 ha hb na nb hp) na2).imp fun σ H Q ⟨S, δ, st, d, st', rs, so, e, q⟩ => by
  obtain ⟨x, s1, ea, e1⟩ := bd_inv e
  obtain ⟨y, s2, eb, e2⟩ := bd_inv e1
  obtain ⟨eo, es⟩ := of_inv e2
  clear e e1 e2
  subst es
  obtain ⟨i, j, rfl, rfl, ⟨h1, h2, h3, h4⟩, rfl⟩ := rngL_inv eo
  refine ⟨S, δ, st, _, s1, rs, so, ea, fun v H1 L1 x1 so1 r1 => ⟨S, δ, s1, _, _, rs.extS x1, so1, eb, fun w H2 L2 x2 so2 r2 => ?_⟩⟩
  obtain ⟨rfl, rfl⟩ := r1.iint
  obtain ⟨rfl, rfl⟩ := r2.iint
  refine ⟨i, j, rfl, rfl, RgOk.of_le (by omega) (by omega) (by omega) (by omega), fun p np => ?_⟩
  exact q _ _ [p] (x1.trans (x2.trans (HE.fresh np))) (so2.ext0 (HE.fresh np)) (.lst upd_same (fun z => so2.tr _ z np) (rgV_rngD _ _)) (by simp) fun b hb => by
    have : b = p := by simpa using hb
    exact this ▸ x1.new _ (x2.new _ np)
theorem d_lstR2 {a b : Expr} {f g : FE} {p p2 pos pos2 : Pos} (hc : X.calm = true) (hg : Gl X "list") (hm : X.mg "list" = none) (hg2 : Gl X "range") (hm2 : X.mg "range" = none) (ha : DE X a f) (hb : DE X b g)
    (na : starEach [a, b] X.env = (false, eval a X.env) :: starEach [b] X.env := by rfl) (nb : starEach [b] X.env = (false, eval b X.env) :: starEach [] X.env := by rfl) (hp : (backTo pos2 (starEach [b] X.env)).any (·.1) = false := by rfl)
    (na2 : starEach [.Call (.Name "range" p2) [a, b] [] pos2] X.env = (false, eval (.Call (.Name "range" p2) [a, b] [] pos2) X.env) :: starEach [] X.env := by rfl) :
    DE X (.Call (.Name "list" p) [.Call (.Name "range" p2) [a, b] [] pos2] [] pos) (eLstR2 f g) := df_de (df_lstR2 hc hg hm hg2 hm2 ha hb na nb hp na2)
theorem d_tupR2 {a b : Expr} {f g : FE} {p p2 pos pos2 : Pos} (hc : X.calm = true) (hg : Gl X "tuple") (hm : X.mg "tuple" = none) (hg2 : Gl X "range") (hm2 : X.mg "range" = none) (ha : DE X a f) (hb : DE X b g)
    (na : starEach [a, b] X.env = (false, eval a X.env) :: starEach [b] X.env := by rfl) (nb : starEach [b] X.env = (false, eval b X.env) :: starEach [] X.env := by rfl) (hp : (backTo pos2 (starEach [b] X.env)).any (·.1) = false := by rfl)
    (na2 : starEach [.Call (.Name "range" p2) [a, b] [] pos2] X.env = (false, eval (.Call (.Name "range" p2) [a, b] [] pos2) X.env) :: starEach [] X.env := by rfl) :
    DE X (.Call (.Name "tuple" p) [.Call (.Name "range" p2) [a, b] [] pos2] [] pos) (eTupR2 f g) := (pe_tupRg hc hg hm (prg_2 hg2 hm2 ha hb na nb hp) na2).imp fun σ H Q ⟨S, δ, st, d, st', rs, so, e, q⟩ => by
  obtain ⟨x, s1, ea, e1⟩ := bd_inv e
  obtain ⟨y, s2, eb, e2⟩ := bd_inv e1
  obtain ⟨eo, es⟩ := of_inv e2
  clear e e1 e2
  subst es
  obtain ⟨i, j, rfl, rfl, ⟨h1, h2, h3, h4⟩, rfl⟩ := rngL_inv eo
  refine ⟨S, δ, st, _, s1, rs, so, ea, fun v H1 L1 x1 so1 r1 => ⟨S, δ, s1, _, _, rs.extS x1, so1, eb, fun w H2 L2 x2 so2 r2 => ?_⟩⟩
  obtain ⟨rfl, rfl⟩ := r1.iint
  obtain ⟨rfl, rfl⟩ := r2.iint
  refine ⟨i, j, rfl, rfl, RgOk.of_le (by omega) (by omega) (by omega) (by omega), fun p np => ?_⟩
  exact q _ _ [] (x1.trans (x2.trans (HE.fresh np))) (so2.ext0 (HE.fresh np)) (.tup (.inl upd_same) (rgV_rngD _ _))
/-! reckoning -/
@[simp] theorem eLstR1_ap (f : FE) (δ : Ev) (s : Src) : eLstR1 f δ s = (f δ s).bind fun p => M.of (match p.1 with | .int j => if 0 ≤ j ∧ j.natAbs ≤ 1000000 then some (.lst (rngD 0 j.toNat)) else none | _ => none) p.2 := by
  simp only [eLstR1, e1_ap] <;> congr
@[simp] theorem eTupR1_ap (f : FE) (δ : Ev) (s : Src) : eTupR1 f δ s = (f δ s).bind fun p => M.of (match p.1 with | .int j => if 0 ≤ j ∧ j.natAbs ≤ 1000000 then some (.tup (rngD 0 j.toNat)) else none | _ => none) p.2 := by
  simp only [eTupR1, e1_ap] <;> congr
theorem rngD_F (n lo : Nat) : rngD (lo : Int) n = seqF n fun i => .int ((lo + i : Nat) : Int) := by
  rw [rngD_map]; rfl
theorem lstR1 {f : FE} {δ : Ev} {s : Src} {n : Nat} (h : n ≤ 1000000) (e : Yl (f δ s) (.int (n : Nat)) s) : Yl (eLstR1 f δ s) (vL n fun i => .int (i : Nat)) s := by
  unfold Yl at *
  rw [eLstR1_ap, e, Option.bind_some]
  show M.of (if 0 ≤ (n : Int) ∧ (n : Int).natAbs ≤ 1000000 then some (D.lst (rngD 0 (n : Int).toNat)) else none) s = _
  rw [if_pos (by omega), Int.toNat_natCast, show (0 : Int) = ((0 : Nat) : Int) from rfl, rngD_F, of_some]
  congr 2
  exact congrArg D.lst (seqF_congr fun i _ => by rw [Nat.zero_add])
theorem tupR1 {f : FE} {δ : Ev} {s : Src} {n : Nat} (h : n ≤ 1000000) (e : Yl (f δ s) (.int (n : Nat)) s) : Yl (eTupR1 f δ s) (vT n fun i => .int (i : Nat)) s := by
  unfold Yl at *
  rw [eTupR1_ap, e, Option.bind_some]
  show M.of (if 0 ≤ (n : Int) ∧ (n : Int).natAbs ≤ 1000000 then some (D.tup (rngD 0 (n : Int).toNat)) else none) s = _
  rw [if_pos (by omega), Int.toNat_natCast, show (0 : Int) = ((0 : Nat) : Int) from rfl, rngD_F, of_some]
  congr 2
  exact congrArg D.tup (seqF_congr fun i _ => by rw [Nat.zero_add])
theorem lstR2 {f g : FE} {δ : Ev} {s : Src} {a b : Nat} (h : a ≤ 1000000) (h2 : b ≤ 1000000) (e : Yl (f δ s) (.int (a : Nat)) s) (e' : Yl (g δ s) (.int (b : Nat)) s) : Yl (eLstR2 f g δ s) (vL (b - a) fun i => .int ((a + i : Nat) : Int)) s := by
  refine .e2 e e' ?_
  show (if 0 ≤ (a : Int) ∧ (a : Int).natAbs ≤ 1000000 ∧ 0 ≤ (b : Int) ∧ (b : Int).natAbs ≤ 1000000 then some (D.lst (rngD a ((b : Int) - a).toNat)) else none) = _
  rw [if_pos (by omega), rngD_F, show ((b : Int) - (a : Int)).toNat = b - a by omega]; rfl
theorem mulT_one {x : D} {n : Nat} (h : 2 ≤ n) (h2 : n ≤ 1000) (hx : x.lf = true) : dMulT (.tup [x]) (.int (n : Nat)) = some (vT n fun _ => x) := by
  show (if _ then _ else _) = _
  rw [if_pos ⟨by omega, by omega, by simp, by simp, by simp [hx]⟩, Int.toNat_natCast]
  congr 2
  have e : ∀ k : Nat, (List.replicate k [x]).flatten = List.replicate k x := fun k => by
    induction k with
    | zero => rfl
    | succ k ih => rw [List.replicate_succ, List.flatten_cons, ih, List.replicate_succ]; rfl
  rw [e]
  exact seqF_ext List.length_replicate fun i hi => by rw [List.getElem?_replicate, if_pos hi]
end DL
set_option Elab.async false
set_option linter.all false
set_option maxRecDepth 100000
set_option maxHeartbeats 4000000
/-! DU: l.index(x), fresh slices of lists, drawn filters. -/
namespace DL
open PySem PySem.Spec PyProof.Rows L2
section
variable {X : Cx} {e o : Expr} {f g : FE} {apos cpos : Pos}
/-- l.index(x), flat things -/
def mIndex : D → D → Option D
  | .lst ds, x => if (flatD x && ds.all flatD) = true then (ds.findIdx? fun y => eqF y x).map fun j => .int (j : Nat) else none
  | _, _ => none
theorem mIndex_inv {a x d : D} (h : mIndex a x = some d) : ∃ ds j, a = .lst ds ∧ (flatD x = true ∧ ds.all flatD = true) ∧ (ds.findIdx? fun y => eqF y x) = some j ∧ d = .int (j : Nat) := by
  unfold mIndex at h
  split at h
  · split at h
    · rename_i q
      rw [Bool.and_eq_true] at q
      obtain ⟨j, e1, e2⟩ := Option.map_eq_some_iff.mp h
      exact ⟨_, j, rfl, q, e1, e2.symm⟩
    · cases h
  · cases h
theorem d_index (ho : DE X o f) (he : DE X e g)
    (hbase : attributeBase o "index" X.env (eval o X.env) = eval o X.env := by rfl)
    (hfew : ((backTo cpos (starEach [e] X.env)).all (fun x => !x.1) && (backToKw cpos (keywordEach [] X.env)).all (fun x => x.1.isSome) && decide (([e] : List Expr).length + ([] : List Keyword).length + (if ([] : List Keyword).isEmpty then 0 else 1) < 30)) = true := by rfl)
    (hline : (apos.endLine == cpos.line) = true := by rfl) (hst : starEach [e] X.env = (false, eval e X.env) :: starEach [] X.env := by rfl) (hplain : (backTo cpos (starEach [] X.env)).any (·.1) = false := by rfl) :
    DE X (.Call (.Attribute o "index" apos) [e] [] cpos) (e2 mIndex f g) := (pe_bm PySem.F.plainAttrs_list PySem.F.slot_list_index PySem.F.type_list_index mt_index ho (pa_cons he pa_nil hst) hbase hfew hline hst hplain).imp fun σ H Q ⟨S, δ, st, d, st', rs, so, e, q⟩ => by
  obtain ⟨x, s1, ea, e3⟩ := bd_inv e
  obtain ⟨y, s2, eb, e4⟩ := bd_inv e3
  obtain ⟨eo, es⟩ := of_inv e4
  clear e4 e3
  subst es
  obtain ⟨ds, j, rfl, ⟨h1, h2⟩, h3, rfl⟩ := mIndex_inv eo
  refine ⟨S, δ, st, .lst ds, s1, rs, so, ea, fun v H1 L1 x1 so1 r1 => ?_⟩
  obtain ⟨a, vs, L1', rfl, ea', na, rsa, rfl⟩ := r1.ilst
  refine ⟨.inl ⟨rfl, vs, SqL.of ea'⟩, S, δ, s1, y, _, rs.extS x1, so1, eb, fun w H2 L2' x2 so2 r2 => ?_⟩
  obtain ⟨b, vs2, L3, eb', hb, nb, rsb, _⟩ := (r1.extS x2).ilst
  cases eb'
  obtain ⟨hj, hz, hno⟩ := List.findIdx?_eq_some_iff_getElem.mp h3
  have hl := rsb.len
  have hj2 : j < vs2.length := by omega
  have fe : ∀ m (hm : m < ds.length), eqV (vs2[m]'(by omega)) w = eqF ds[m] y := fun m hm => by
    obtain ⟨u, L', e1, e2, _⟩ := rsb.get (List.getElem?_eq_getElem hm)
    have e3 : vs2[m]'(by omega) = u := by
      rw [List.getElem?_eq_getElem (by omega)] at e1
      exact Option.some.inj e1
    rw [e3]
    exact e2.eqF r2 (List.all_eq_true.mp h2 _ (List.getElem_mem hm)) h1
  refine ⟨a, vs2, w, j, vs2[j], rfl, rfl, SqL.of hb, r2.flat h1, rsb.flats h2, List.getElem?_eq_getElem hj2, by rw [fe j hj]; exact hz, fun m z' hm hz' => ?_, q _ H2 [] (x1.trans x2) so2 (.int _)⟩
  have hml : m < ds.length := by omega
  rw [List.getElem?_eq_getElem (by omega)] at hz'
  cases hz'
  rw [fe m hml]
  simpa using hno m hm
/-- a slice of a list is new -/
def slF (a : D) (lo hi : Option Int) : Option D := match a with
  | .lst xs => if lfs xs = true then some (.lst (cutD xs lo hi)) else none
  | _ => none
theorem slF_inv {a d : D} {lo hi : Option Int} (h : slF a lo hi = some d) : ∃ xs, a = .lst xs ∧ lfs xs = true ∧ d = .lst (cutD xs lo hi) := by
  unfold slF at h
  split at h
  · split at h
    · rename_i q
      cases h
      exact ⟨_, rfl, q, rfl⟩
    · cases h
  · cases h
theorem lfs_all : ∀ xs : List D, lfs xs = xs.all D.lf
  | [] => rfl
  | d :: xs => by rw [lfs, lfs_all xs]; rfl
theorem lfs_cut {xs : List D} (h : lfs xs = true) (lo hi : Option Int) : lfs (cutD xs lo hi) = true := by
  rw [lfs_all] at *
  unfold cutD
  exact List.all_eq_true.mpr fun d hd => List.all_eq_true.mp h d (List.mem_of_mem_drop (List.mem_of_mem_take hd))
def eSlF (f : FE) (lo hi : FO) : FE := fun δ => (f δ).bd fun a => (lo δ).bd fun l => (hi δ).bd fun u => M.of (slF a l u)
theorem df_sl {lo hi : Option Expr} {l u : FO} {p2 pos : Pos} (he : DE X e f) (hl : DO X lo l) (hu : DO X hi u) : DF X (.Subscript e (.Slice lo hi none p2) pos) (eSlF f l u) := (pe_slice sl_list he hl hu).imp fun σ H Q ⟨S, δ, st, d, st', rs, so, e, q⟩ => by
  obtain ⟨x, s1, ea, e⟩ := bd_inv e
  obtain ⟨y, s2, eb, e⟩ := bd_inv e
  obtain ⟨z, s3, ec, e⟩ := bd_inv e
  obtain ⟨eo, es⟩ := of_inv e
  subst es
  obtain ⟨xs, rfl, hlf, rfl⟩ := slF_inv eo
  refine ⟨S, δ, st, _, s1, rs, so, ea, fun v H1 L1 x1 so1 r1 => ⟨S, δ, s1, y, s2, rs.extS x1, so1, eb, fun H2 x2 so2 => ⟨S, δ, s2, z, _, rs.extS (x1.trans x2), so2, ec, fun H3 x3 so3 => ?_⟩⟩⟩
  obtain ⟨a, vs, L1', rfl, ea', na, rsa, rfl⟩ := (r1.extS (x2.trans x3)).ilst
  have l1 := rsa.nils hlf
  subst l1
  obtain ⟨L', rc⟩ := rsa.cut y z
  have hc : lfs (cutD xs y z) = true := lfs_cut hlf y z
  have l2 := rc.nils hc
  subst l2
  refine ⟨a, vs, rfl, SqL.of ea', fun p np => ?_⟩
  exact q _ _ [p] (x1.trans (x2.trans (x3.trans (HE.fresh np)))) (so3.ext0 (HE.fresh np)) (.lst upd_same (fun w => so3.tr _ w np) (rc.ext0 (HE.fresh np))) (by simp) fun c hc => by
    have : c = p := by simpa using hc
    exact this ▸ x1.new _ (x2.new _ (x3.new _ np))
end
section
variable {h : FI} {vs : List Nat} {g : D → Ev → Option Ev} {tt : Ev → M Bool} {te : FE} {δ : Ev} {s s1 : Src}
/-- what draws whether each is taken -/
theorem cLp_drawI {α : Type} (f F : α → D) : ∀ (l : List α) (s : Src), (∀ a, a ∈ l → ∀ s, ∃ (b : Bool) (s' : Src) (δ1 : Ev), g (f a) (wipeE δ vs) = some δ1 ∧ Yl (tt δ1 s) b s' ∧ (b = true → Yl (te δ1 s') (F a) s')) →
    ∃ (p : List Bool) (s' : Src), p.length = l.length ∧ cLp vs g tt te δ (l.map f) s = some ((((l.zip p).filter fun q => q.2).map fun q => F q.1), s')
  | [], s, _ => ⟨[], s, rfl, rfl⟩
  | a :: l, s, hb => by
    obtain ⟨b, s', δ1, e1, e2, e3⟩ := hb a List.mem_cons_self s
    obtain ⟨p, s2, hl, e4⟩ := cLp_drawI f F l s' fun b hb' => hb b (List.mem_cons_of_mem _ hb')
    refine ⟨b :: p, s2, by simp [hl], ?_⟩
    cases b with
    | true =>
      rw [List.map_cons, cLp]
      simp only [bd_ap, e1, of_some, Option.bind_some, e2.eq, if_true, (e3 rfl).eq, e4, ret_ap]
      simp
    | false =>
      rw [List.map_cons, cLp]
      simp only [bd_ap, e1, of_some, Option.bind_some, e2.eq, e4, ret_ap]
      simp
      exact e4
end
end DL
set_option Elab.async false
set_option linter.all false
set_option maxRecDepth 100000
set_option maxHeartbeats 4000000
/-! DV: plain tuples looked at as tuples, t.index(x) of numbers, ranges as values, tuple * 1. -/
namespace DL
open PySem PySem.Spec PyProof.Rows L2
/-! ### a plain tuple is a tuple -/
mutual
def D.fg : D → D
  | .tup xs => .tup (fgs xs)
  | .tupk xs => .tup (fgs xs)
  | .lst xs => .lst xs
  | .non => .non
  | .bl b => .bl b
  | .int i => .int i
  | .str x => .str x
  | .src => .src
  | .dct k => .dct k
  | .rng a b => .rng a b
def fgs : List D → List D
  | [] => []
  | d :: ds => d.fg :: fgs ds
end
mutual
theorem Rp.fg {S : Sr} {H : Hp} {v : V} {d : D} {L : List Addr} (r : Rp S H v d L) : Rp S H v d.fg L := by
  cases r with
  | non => rw [D.fg]; exact .non
  | bl b => rw [D.fg]; exact .bl b
  | int i => rw [D.fg]; exact .int i
  | str x => rw [D.fg]; exact .str x
  | src => rw [D.fg]; exact .src
  | dct e => rw [D.fg]; exact .dct e
  | rng e => rw [D.fg]; exact .rng e
  | lst h n rs => rw [D.fg]; exact .lst h n rs
  | tup h rs => rw [D.fg]; exact .tup h rs.fgs
  | tupk h _ rs => rw [D.fg]; exact .tup (.inr ⟨_, h⟩) rs.fgs
theorem Rps.fgs {S : Sr} {H : Hp} {vs : List V} {ds : List D} {L : List Addr} (r : Rps S H vs ds L) : Rps S H vs (fgs ds) L := by
  cases r with
  | nil => rw [DL.fgs]; exact .nil
  | cons r rs => rw [DL.fgs]; exact .cons r.fg rs.fgs
end
def oFg (d : D) : Option D := some d.fg
section
variable {X : Cx} {e o : Expr} {f g : FE}
theorem d_fg (he : DE X e f) : DE X e (e1 oFg f) := he.imp fun σ H Q ⟨S, δ, st, d, st', rs, so, e, q⟩ => by
  obtain ⟨x, s1, ea, e3⟩ := bd_inv e
  obtain ⟨eo, es⟩ := of_inv e3
  subst es
  cases eo
  exact ⟨S, δ, st, x, _, rs, so, ea, fun v H1 L1 x1 so1 r1 => q v H1 L1 x1 so1 r1.fg⟩
/-! ### t.index(x) -/
def mIndexK : D → D → Option D
  | .tupk ds, .int k => (intL ds).bind fun ns => if k ∈ ns then some (.int (ns.idxOf k : Nat)) else none
  | _, _ => none
theorem mIndexK_inv {a b d : D} (h : mIndexK a b = some d) : ∃ (ns : List Int) (k : Int), a = .tupk (ns.map .int) ∧ b = .int k ∧ k ∈ ns ∧ d = .int (ns.idxOf k : Nat) := by
  unfold mIndexK at h
  split at h
  · obtain ⟨ns, e1, e2⟩ := Option.bind_eq_some_iff.mp h
    rw [intL_ds e1]
    split at e2
    · rename_i q
      cases e2
      exact ⟨ns, _, rfl, rfl, q, rfl⟩
    · cases e2
  · cases h
theorem pe_indexK {te : TE} {t : TA} {apos cpos : Pos} (ho : PE X o te) (ha : PA X [e] t)
    (hbase : attributeBase o "index" X.env (eval o X.env) = eval o X.env := by rfl)
    (hfew : ((backTo cpos (starEach [e] X.env)).all (fun x => !x.1) && (backToKw cpos (keywordEach [] X.env)).all (fun x => x.1.isSome) && decide (([e] : List Expr).length + ([] : List Keyword).length + (if ([] : List Keyword).isEmpty then 0 else 1) < 30)) = true := by rfl)
    (hline : (apos.endLine == cpos.line) = true := by rfl) (hs : starEach [e] X.env = (false, eval e X.env) :: starEach [] X.env := by rfl) (hplain : (backTo cpos (starEach [] X.env)).any (·.1) = false := by rfl) :
    PE X (.Call (.Attribute o "index" apos) [e] [] cpos) (fun σ H Q => te σ H fun x H1 => ∃ p ob vs, x = .ref p ∧ H1 p = some (.frz ob (.tup vs)) ∧ ob.dict = none ∧ t σ H1 fun xs H2 => ∃ (ns : List Int) (k : Int), xs = [.int k] ∧ H2 p = some (.frz ob (.tup (ns.map V.int))) ∧ k ∈ ns ∧ Q (.int (ns.idxOf k : Nat)) H2) := by
  refine ⟨fun pins s σ H Q I h => (wpAny_Call_method_late hbase hfew hline rfl (thn (ho.run pins s σ H _ I h) fun v s1 ⟨x, H1, I1, r1, p, ob, vs, ex, hp, hd, q1⟩ => ?_))⟩
  subst ex
  obtain rfl : v = Value.ref p := r1
  obtain ⟨hob, _, its, rv, o', ho', hc, _⟩ := (show ObjOk X.prog X.w H1 s1.heap p (.frz ob (.tup vs)) from I1.hok p _ hp)
  rw [hob] at ho'
  cases ho'
  refine ⟨"tuple", "tuple.index", PySem.F.plainAttrs_tuple, PySem.F.slot_tuple_index, PySem.F.type_tuple_index, ⟨ob, hob, hc⟩, fun a ea => by cases ea; exact ⟨ob, hob, hd⟩, ?_⟩
  have hA := ha.run cpos pins s1 σ H1 _ I1 q1
  rw [hs] at hA ⊢
  refine Calls.callWith_builtin (by show (false || (backTo cpos (starEach [] X.env)).any (·.1)) = false; rw [hplain] <;> rfl) (Calls.evalArgs_plain (thn hA fun us s2 ⟨xs, H2, I2, r2, ns, k, ex, hp2, hk, q⟩ => ?_))
  subst ex
  obtain ⟨u, rfl, ru⟩ := vals1 r2
  obtain ⟨t2, rfl⟩ := ru
  have hq : SqT X.K H2 p (ns.map V.int) := .inl (.inr ⟨_, hp2⟩)
  obtain ⟨its2, rv2, ht, hz⟩ := I2.tuple hq
  exact PySem.SeqAt.tuple_index_ints (show s2.heap.IsTuple p its2.toArray from ht) rv2.ints hk ⟨.int (ns.idxOf k : Nat), H2, I2.tok _, ⟨_, rfl⟩, q⟩
theorem d_indexK {apos cpos : Pos} (ho : DE X o f) (he : DE X e g)
    (hbase : attributeBase o "index" X.env (eval o X.env) = eval o X.env := by rfl)
    (hfew : ((backTo cpos (starEach [e] X.env)).all (fun x => !x.1) && (backToKw cpos (keywordEach [] X.env)).all (fun x => x.1.isSome) && decide (([e] : List Expr).length + ([] : List Keyword).length + (if ([] : List Keyword).isEmpty then 0 else 1) < 30)) = true := by rfl)
    (hline : (apos.endLine == cpos.line) = true := by rfl) (hst : starEach [e] X.env = (false, eval e X.env) :: starEach [] X.env := by rfl) (hplain : (backTo cpos (starEach [] X.env)).any (·.1) = false := by rfl) :
    DE X (.Call (.Attribute o "index" apos) [e] [] cpos) (e2 mIndexK f g) := (pe_indexK ho (pa_cons he pa_nil hst) hbase hfew hline hst hplain).imp fun σ H Q ⟨S, δ, st, d, st', rs, so, e, q⟩ => by
  obtain ⟨x, s1, ea, e3⟩ := bd_inv e
  obtain ⟨y, s2, eb, e4⟩ := bd_inv e3
  obtain ⟨eo, es⟩ := of_inv e4
  clear e4 e3
  subst es
  obtain ⟨ns, k, rfl, rfl, hk, rfl⟩ := mIndexK_inv eo
  refine ⟨S, δ, st, _, s1, rs, so, ea, fun v H1 L1 x1 so1 r1 => ?_⟩
  obtain ⟨p, ob, vs, rfl, hp, hd, rr⟩ := r1.itupk
  have ev : vs = ns.map V.int := rr.intL (by rw [intL_ints])
  subst ev
  refine ⟨p, ob, _, rfl, hp, hd, S, δ, s1, _, _, rs.extS x1, so1, eb, fun w H2 L2' x2 so2 r2 => ?_⟩
  obtain ⟨rfl, rfl⟩ := r2.iint
  exact ⟨ns, k, rfl, x2.fz _ _ _ hp, hk, q _ H2 [] (x1.trans x2) so2 (.int _)⟩
/-! ### ranges as values -/
def bRng : List D → Option D
  | [.int j] => if j.natAbs ≤ 1000000 then some (.rng 0 j) else none
  | [.int i, .int j] => if i.natAbs ≤ 1000000 ∧ j.natAbs ≤ 1000000 then some (.rng i j) else none
  | _ => none
theorem b_rng : CallR X (.type "range") (rDs bRng) := by
  intro pins s σ H xs us Q I r ⟨S, ds, d, La, hn, rs, e, q⟩
  have mk : ∀ (i j : Int) (t u v : Tok) (tk : Nat), Rp S H (.int 0) (.int 0) [] → d = .rng i j → (Q' : Value → Shared → Prop) → (Q' = fun _ _ => True) → True := fun _ _ _ _ _ _ _ _ _ _ => trivial
  match ds, e with
  | [.int j], e =>
    have e : (if j.natAbs ≤ 1000000 then some (D.rng 0 j) else none) = some d := e
    by_cases h : j.natAbs ≤ 1000000
    · rw [if_pos h] at e
      cases e
      obtain ⟨v, rfl, rv⟩ := rs.i1
      obtain ⟨rfl, rfl⟩ := rv.iint
      obtain ⟨u, rfl, ru⟩ := vals1 r
      obtain ⟨t, rfl⟩ := ru
      have np := I.hok.fresh (Nat.le_refl s.heap.objs.size)
      refine call_range_1 ⟨.ref s.heap.objs.size, upd H s.heap.objs.size (.frz _ (.rng 0 j)), I.laid (t' := s.toks + 2) (fun b o e => Heap.get?_push_of_some _ e) (Nat.le_refl _) ⟨Heap.get?_push_size _ rfl, _, _, _, Heap.get?_push_size _ rfl⟩, rfl, q _ _ [] (HE.fresh np) (.rng upd_same)⟩
    · rw [if_neg h] at e; cases e
  | [.int i, .int j], e =>
    have e : (if i.natAbs ≤ 1000000 ∧ j.natAbs ≤ 1000000 then some (D.rng i j) else none) = some d := e
    by_cases h : i.natAbs ≤ 1000000 ∧ j.natAbs ≤ 1000000
    · rw [if_pos h] at e
      cases e
      obtain ⟨v, w, L1, L2, rfl, rv, rw'⟩ := rs.i2
      obtain ⟨rfl, rfl⟩ := rv.iint
      obtain ⟨rfl, rfl⟩ := rw'.iint
      obtain ⟨u1, u2, rfl, r1, r2⟩ := vals2 r
      obtain ⟨t, rfl⟩ := r1
      obtain ⟨t2, rfl⟩ := r2
      have np := I.hok.fresh (Nat.le_refl s.heap.objs.size)
      exact call_range_2 ⟨.ref s.heap.objs.size, upd H s.heap.objs.size (.frz _ (.rng i j)), I.laid (t' := s.toks + 1) (fun b o e => Heap.get?_push_of_some _ e) (Nat.le_refl _) ⟨Heap.get?_push_size _ rfl, _, _, _, Heap.get?_push_size _ rfl⟩, rfl, q _ _ [] (HE.fresh np) (.rng upd_same)⟩
    · rw [if_neg h] at e; cases e
def iRngV (tl : TE) : TI := fun σ H R => tl σ H fun x H1 => ∃ a lo hi, x = .ref a ∧ Rd H1 a (.rng lo hi) ∧ (-(2 ^ 62) ≤ lo ∧ lo < 2 ^ 62 ∧ -(2 ^ 62) ≤ hi ∧ hi < 2 ^ 62) ∧ R (Itr lo (hi - lo).toNat) H1
theorem pi_rngV {tg l : Expr} {tl : TE} (hl : PE X l tl) : PI X tg l (iRngV tl) := by
  refine ⟨fun pins s σ H R I h => ?_⟩
  refine thn (hl.run pins s σ H _ I h) fun v s1 ⟨x, H1, I1, r1, q1⟩ => ?_
  obtain ⟨a, lo, hi, e, hq, ⟨h1, h2, h3, h4⟩, q⟩ := q1
  subst e
  cases r1
  obtain ⟨t, u, v, ho⟩ := (hq.ok I1.hok : ObjOk X.prog X.w H1 s1.heap a (.rng lo hi))
  refine wpAny_pyIter_range (show IsRange s1.heap a lo hi 1 t u v from ho) (small_one h1 h2 h3 h4) ?_
  refine ⟨s1.heap.objs.size, [s1.heap.objs.size], _, _, H1, rfl, I1.kept (t' := s1.toks) fun b o e => Heap.get?_push_of_some _ e, turn_range _ lo (hi - lo).toNat, ?_, fun b hb => ?_, q⟩
  · have e1 : lo + ((0 : Nat) : Int) * 1 = lo := by simp
    have e2 : (((hi - lo).toNat : Nat) : Int) - ((0 : Nat) : Int) = Builtin.Range.rangeSize lo hi 1 := by rw [rangeSize_one]; split <;> omega
    show IsRangeIter _ _ (lo + ((0 : Nat) : Int) * 1) ((((hi - lo).toNat : Nat) : Int) - ((0 : Nat) : Int)) 1
    rw [e1, e2]
    exact Heap.get?_push_size _ rfl
  · have e : b = s1.heap.objs.size := by simpa using hb
    subst e
    exact I1.fpOk (Nat.le_refl _) (I1.hok.fresh (Nat.le_refl _))
def rngI : D → Option (List D)
  | .rng i j => if i.natAbs ≤ 1000000 ∧ j.natAbs ≤ 1000000 then some (rngD i (j - i).toNat) else none
  | _ => none
theorem rngI_inv {d : D} {xs : List D} (h : rngI d = some xs) : ∃ i j, d = .rng i j ∧ (i.natAbs ≤ 1000000 ∧ j.natAbs ≤ 1000000) ∧ xs = rngD i (j - i).toNat := by
  unfold rngI at h
  split at h
  · split at h
    · rename_i q
      cases h
      exact ⟨_, _, rfl, q, rfl⟩
    · cases h
  · cases h
def iRng (f : FE) : FI := fun δ => (f δ).bd fun d => M.of (rngI d)
theorem dif_rng {tg : Expr} (he : DE X e f) : DIF X tg e (iRng f) := (pi_rngV he).imp fun σ H R ⟨S, δ, st, ds, st', rs, so, e, q⟩ => by
  obtain ⟨d, s1, ea, e1⟩ := bd_inv e
  obtain ⟨eo, es⟩ := of_inv e1
  clear e e1
  subst es
  obtain ⟨i, j, rfl, ⟨h1, h2⟩, rfl⟩ := rngI_inv eo
  refine ⟨S, δ, st, _, _, rs, so, ea, fun v H1 L x1 so1 r => ?_⟩
  cases r with
  | rng hr => exact ⟨_, i, j, rfl, .inr ⟨_, hr⟩, ⟨by omega, by omega, by omega, by omega⟩, q _ H1 [] x1 so1 (wk_rng i (j - i).toNat) (fun _ z => nomatch z)⟩
end
end DL
set_option Elab.async false
set_option linter.all false
set_option maxRecDepth 100000
set_option maxHeartbeats 4000000
/-! DW: a tuple times one or more. -/
namespace DL
open PySem PySem.Spec PyProof.Rows L2
theorem tuple_mul1 (l : Addr) (items : Array Value) (n : Nat) (dd : Option Addr) (sl : Array (Option Value)) (u : Tok) :
    Meets (Builtin.«tuple.__mul__» ⟨[.ref l, .int 1 u], []⟩) (fun _ R s => s.heap.get? l = some { cls := .type "tuple", dict := dd, data := .seq items n, slots := sl } ∧ R (.ok (.ret (Value.ref l))) s) :=
  .of_wp fun prog w A R s h => by
    obtain ⟨hp, g, d, tk, os⟩ := s
    obtain ⟨hl, h⟩ := h
    have f1 := AutoSeq1.idx_int
    have c0 : (decide ((1 : Int) < -(2 ^ 63)) || decide ((1 : Int) ≥ 2 ^ 63)) = false := by decide
    have c1 : (items.isEmpty || (1 : Int) == 1) = true := by simp
    wp_walk using wpAny_loadPart' hl
    repeat (first
      | (refine wpAny_ite_false (decide_eq_false (by rw [c0]; exact Bool.false_ne_true)) ?_; wp_walk using wpAny_loadPart' hl)
      | (refine wpAny_ite_true (decide_eq_true (by rw [c1])) ?_; wp_walk using wpAny_loadPart' hl))
    exact ⟨_, rfl, h⟩
section
variable {X : Cx}
theorem op_repT1 : OpR X (binaryOp .Mult) (fun x y H Q => ∃ l xs, x = .ref l ∧ y = .int 1 ∧ SqT X.K H l xs ∧ Q (.ref l) H) := by
  intro pins s σ H x y v u Q I rx ry h
  obtain ⟨l, xs, rfl, rfl, hT, q⟩ := h
  cases rx
  obtain ⟨t, rfl⟩ := ry
  obtain ⟨its, r, ⟨⟨cls, dd, data, sl⟩, ho, hc, n, hd⟩, hs⟩ := I.tuple hT
  simp only at hc hd
  subst hc hd
  exact wpAny_binaryOp_repeat_ref (T := "tuple") (U := "int") (by decide) ⟨_, ho, rfl⟩ (fun s' => typeIs_int s' 1 t) noFill_tuple_mul F.fills_int_mul F.slot_int_rmul repeat_tuple F.slot_int_index.lookup
    (call_meets F.slot_int_rmul (typeIs_int s 1 t) F.entry_int_rmul (F.args_int_rmul_2 _ _) (int_rmul_tuple 1 t l its.toArray n dd sl)
      ⟨ho, rfl, ⟨_, ho, rfl⟩, call_meets F.slot_tuple_mul ⟨_, ho, rfl⟩ F.entry_tuple_mul (F.args_tuple_mul_2 _ _) (tuple_mul1 l its.toArray n dd sl t) ⟨ho, ⟨.ref l, H, I, rfl, q⟩⟩⟩)
/-- a tuple times one or more -/
def dMulT1 : D → D → Option D
  | .tup xs, .int k => if k = 1 then (if lfs xs = true then some (.tup xs) else none) else dMulT (.tup xs) (.int k)
  | _, _ => none
theorem o_mulT1 : OpR X (binaryOp .Mult) (rD2 dMulT1) := (op_repT1.or o_mulT).imp fun x y H Q ⟨S, a, b, d, La, Lb, hn, ra, rb, e, q⟩ => by
  unfold dMulT1 at e
  split at e
  · split at e
    · rename_i xs k hk
      split at e
      · rename_i hlf
        cases e
        subst hk
        obtain ⟨t, vs, rfl, ht, rs⟩ := ra.itup
        obtain ⟨rfl, rfl⟩ := rb.iint
        exact .inl ⟨t, vs, rfl, rfl, .inl ht, q _ H _ HE.refl (.tup ht rs)⟩
      · cases e
    · exact .inr ⟨S, _, _, d, La, Lb, hn, ra, rb, e, q⟩
  · cases e
end
theorem mulT1_one {n : Nat} {x : D} (h : 1 ≤ n) (hn : n ≤ 1000) (hx : x.lf = true) : dMulT1 (.tup [x]) (.int (n : Nat)) = some (vT n fun _ => x) := by
  unfold dMulT1
  by_cases e : n = 1
  · subst e
    show (if (1 : Int) = 1 then (if lfs [x] = true then _ else none) else _) = _
    rw [if_pos rfl, if_pos (by simp [lfs, hx])]
    rfl
  · show (if (n : Int) = 1 then _ else dMulT (.tup [x]) (.int (n : Nat))) = _
    rw [if_neg (by omega), mulT_one (by omega) hn hx]
/-! reckoning -/
@[simp] theorem iRng_ap (f : FE) (δ : Ev) (s : Src) : iRng f δ s = (f δ s).bind fun p => M.of (rngI p.1) p.2 := by simp [iRng]
@[simp] theorem oFg_ap (d : D) : oFg d = some d.fg := rfl
@[simp] theorem fg_int (i : Int) : (D.int i).fg = .int i := by rw [D.fg]
@[simp] theorem fg_tup (xs : List D) : (D.tup xs).fg = .tup (fgs xs) := by rw [D.fg]
@[simp] theorem fg_tupk (xs : List D) : (D.tupk xs).fg = .tup (fgs xs) := by rw [D.fg]
theorem fgs_map : ∀ xs : List D, fgs xs = xs.map D.fg
  | [] => by rw [fgs]; rfl
  | d :: xs => by rw [fgs, fgs_map xs]; rfl
theorem fgs_F (n : Nat) (f : Nat → D) : fgs (seqF n f) = seqF n fun i => (f i).fg := by
  rw [fgs_map]
  unfold seqF
  rw [List.map_map]; rfl
@[simp] theorem fg_vT (n : Nat) (f : Nat → D) : (vT n f).fg = vT n fun i => (f i).fg := by
  unfold vT
  rw [fg_tup, fgs_F]
/-- a plain tuple by places -/
def vK (n : Nat) (f : Nat → D) : D := .tupk (seqF n f)
@[simp] theorem fg_vK (n : Nat) (f : Nat → D) : (vK n f).fg = vT n fun i => (f i).fg := by
  unfold vK
  rw [fg_tupk, fgs_F]; rfl
instance lfF_vK (n : Nat → Nat) (g : Nat → Nat → D) [b : ∀ i, LfF (g i)] : LfF fun i => vK (n i) (g i) := ⟨fun i => by
  show lfs (seqF (n i) (g i)) = true
  exact lfs_seqF (b i).h⟩
@[simp] theorem rng_lf (a b : Int) : (D.rng a b).lf = true := rfl
@[simp] theorem bRng1 {n : Nat} (h : n ≤ 1000000) : bRng [.int (n : Nat)] = some (.rng 0 (n : Nat)) := if_pos (by omega)
@[simp] theorem rngI1 {n : Nat} (h : n ≤ 1000000) : rngI (.rng 0 (n : Nat)) = some (seqF n fun i => .int (i : Nat)) := by
  have e := rg1_F h
  show (if (0 : Int).natAbs ≤ 1000000 ∧ (n : Int).natAbs ≤ 1000000 then some (rngD 0 ((n : Int) - 0).toNat) else none) = _
  rw [if_pos (by omega), Int.sub_zero]
  rw [← e]
  show _ = (if (n : Int).natAbs ≤ 1000000 then some (rngD 0 (n : Int).toNat) else none)
  rw [if_pos (by omega)]
@[simp] theorem vK_ofL (n : Nat) (f : Nat → D) : bTupk [vL n f] = some (vK n f) := rfl
@[simp] theorem vK_items (n : Nat) (f : Nat → D) : (vK n f).items = some (seqF n f) := rfl
theorem vK_ix {n i : Nat} {f : Nat → D} (h : i < n) : dIx (vK n f) (.int (i : Nat)) = some (f i) := at_nat (seqF_get h)
end DL
set_option Elab.async false
set_option linter.all false
set_option maxRecDepth 100000
set_option maxHeartbeats 4000000
/-! DY: sorted of tuples the first of which is empty. -/
namespace DL
open PySem PySem.Calls PyProof.Rows PySem.W PySem.SeqAt
section
variable {prog : Program} {w : World} {A : Around} {E : Value → Shared → Prop} {s : Shared}
theorem dy_call_tuple_lt {Q : Value → Shared → Prop} {l b : Addr} {items items2 : Array Value} {e r : Nat → Bool} (hl : s.heap.IsTuple l items) (hb : s.heap.IsTuple b items2)
    (he : ∀ j (h1 : j < items.size) (h2 : j < items2.size), EqAt A.in1 s items[j] items2[j] (e j)) (hr : ∀ j (h1 : j < items.size) (h2 : j < items2.size), e j = false → RcLt A.in1 s items[j] items2[j] (r j))
    (h : Q (.bool (firstLt e r (decide (items.size < items2.size)) (List.range (min items.size items2.size)))) s) : wpAny (model prog w) A (call (.builtin "tuple.__lt__") [.ref l, .ref b]) Q E s := by
  obtain ⟨⟨cls, dd, data, sl⟩, ho, hc, n, hd⟩ := id hl
  obtain ⟨⟨cls2, dd2, data2, sl2⟩, ho2, hc2, n2, hd2⟩ := id hb
  simp only at hc hd hc2 hd2
  subst hc hd hc2 hd2
  exact call_meets F.slot_tuple_lt ⟨_, ho, rfl⟩ F.entry_tuple_lt (F.args_tuple_lt_2 _ _) (tuple_ltAt l b items items2 n n2 dd dd2 sl sl2 e r) ⟨ho, ho2, he, hr, h⟩
theorem dy_oneLt {xs ys : List PyData} {a b : Value} {as bs : List Addr} {Q : Bool → Shared → Prop} (ra : Reads s.heap a (.tuple xs) as) (rb : Reads s.heap b (.tuple ys) bs) (h : alike (.tuple xs) (.tuple ys) = true)
    (hu : A.units + min (PyData.tuple xs).depth (PyData.tuple ys).depth < cLine) (hq : Q (dataLt (.tuple xs) (.tuple ys)) s) : wpAny (model prog w) A (oneLt' true a b) Q E s := by
  have hal : alikeAll xs ys = true := by simpa [alike] using h
  cases ra with
  | @tuple l o vs n _ as₁ h1 h2 h3 h4 =>
    cases rb with
    | @tuple l' o' vs' n' _ bs₁ k1 k2 k3 k4 =>
      have n1 : vs.size = xs.length := by simpa using SeqAt.ReadsAll.length _ _ _ h4
      have n2 : vs'.size = ys.length := by simpa using SeqAt.ReadsAll.length _ _ _ k4
      rw [dataLt_tuple, ← firstLt_toks xs ys hal, ← n1, ← n2] at hq
      rw [oneLt'_eq]
      simp only [if_true]
      refine wpAny_bind (wpAny_cRoomFor (SeqAt.room_here hu) ?_)
      refine wpAny_bind (wpAny_callSpecialIfBound?_slot (T := "tuple") ⟨_, h1, h2⟩ F.slot_tuple_lt (dy_call_tuple_lt (e := pairEq xs ys) (r := fun j => dataLt (xs.getD j .none) (ys.getD j .none)) ⟨_, h1, h2, _, h3⟩ ⟨_, k1, k2, _, k3⟩ (fun j j1 j2 => ?_) (fun j j1 j2 hj => ?_) ?_))
      · have := eqAt_alikeAll xs ys A.in1 s vs.toList vs'.toList _ _ h4 k4 hal (SeqAt.room_in hu) j (by simpa using j1) (by simpa using j2)
        simpa using this
      · have := rcLt_alikeAll xs ys A.in1 s vs.toList vs'.toList _ _ h4 k4 hal (SeqAt.room_in hu) j (by simpa using j1) (by simpa using j2) hj
        simpa using this
      · exact wpAny_truthy_bool hq
end
section
variable {M : Model} {A : Around} {E : Value → Shared → Prop} {s : Shared}
theorem dy_mapM {α β : Type} {f : α → Sem β} (r : α → β) : ∀ (l : List α) {Q : List β → Shared → Prop}, (∀ v ∈ l, ∀ (Q' : β → Shared → Prop), Q' (r v) s → wpAny M A (f v) Q' E s) → Q (l.map r) s → wpAny M A (l.mapM f) Q E s
  | [], _, _, h => by rw [List.mapM_nil]; exact wpAny_pure h
  | x :: l, Q, hf, h => by
    rw [List.mapM_cons]
    exact wpAny_bind (hf x (.head _) _ (wpAny_bind (dy_mapM r l (Q := fun bs s' => wpAny M A (pure (r x :: bs)) Q E s') (fun v hv => hf v (.tail _ hv)) (wpAny_pure h))))
/-- the first of tuples, the first one empty -/
theorem dy_kind {v0 : Value} {vs : List Value} {Q : SortKind → Shared → Prop} (h0 : ∃ a o n, v0 = .ref a ∧ s.heap.get? a = some o ∧ o.cls = .type "tuple" ∧ o.data = .seq #[] n)
    (hT : ∀ v ∈ vs, ∃ a o xs n, v = .ref a ∧ s.heap.get? a = some o ∧ o.cls = .type "tuple" ∧ o.data = .seq xs n) (h : Q oneType' s) : wpAny M A (keyKind' (v0 :: vs).toArray) Q E s := by
  have hT' : ∀ v ∈ v0 :: vs, ∃ a o xs n, v = .ref a ∧ s.heap.get? a = some o ∧ o.cls = .type "tuple" ∧ o.data = .seq xs n := fun v hv => by
    rcases List.mem_cons.mp hv with rfl | hv
    · obtain ⟨a, o, n, e1, e2, e3, e4⟩ := h0
      exact ⟨a, o, _, n, e1, e2, e3, e4⟩
    · exact hT v hv
  let r : Value → Option Value := fun v => match v with
    | .ref a => match s.heap.get? a with
      | some o => match o.data with
        | .seq xs _ => xs[0]?
        | _ => none
      | none => none
    | _ => none
  rw [keyKind'_eq, List.mapM_toArray, map_eq_pure_bind]
  refine wpAny_bind (wpAny_bind (dy_mapM r _ (fun v hv Q' hq => ?_) (wpAny_pure ?_)))
  · obtain ⟨a, o, xs, n, rfl, ho, hc, hd⟩ := hT' v hv
    rw [kas_first_eq]
    refine wpAny_bind (Looks.here (show Looks M s.heap (typeOf (.ref a)) o.cls from (Looks.ld ho).andThen .now) ?_)
    rw [hc, if_neg (by first | decide | simp)]
    refine wpAny_bind (listItems_at ho hd (wpAny_pure ?_))
    have er : r (.ref a) = xs[0]? := by
      show (match s.heap.get? a with | some o => (match o.data with | .seq xs _ => xs[0]? | _ => none) | none => none) = _
      rw [ho]
      show (match o.data with | .seq xs _ => xs[0]? | _ => none) = _
      rw [hd]
    rw [← er]; exact hq
  · obtain ⟨a, o, n, rfl, ho, hc, hd⟩ := h0
    have er : r (.ref a) = none := by
      show (match s.heap.get? a with | some o => (match o.data with | .seq xs _ => xs[0]? | _ => none) | none => none) = _
      rw [ho]
      show (match o.data with | .seq xs _ => xs[0]? | _ => none) = _
      rw [hd]
      rfl
    rw [if_neg (by simp [er]), if_neg (by simp [er])]
    rw [oneTypeOnly'_eq, List.mapM_toArray, map_eq_pure_bind]
    refine wpAny_bind (wpAny_bind (wpAny_bind (kas_mapM (r := Value.type "tuple") _ (fun v hv Q' hq => ?_) (wpAny_pure ?_))))
    · obtain ⟨a, o, xs, n, rfl, ho, hc, hd⟩ := hT' v hv
      exact (show Looks M s.heap (typeOf (.ref a)) (Value.type "tuple") from hc ▸ (Looks.ld ho).andThen .now).here hq
    · have hall : ((List.map (fun _ => Value.type "tuple") (Value.ref a :: vs)).toArray.all fun x => x == Value.type "tuple") = true := by
        simp only [List.all_toArray, List.all_map, List.all_eq_true]
        intro _ _
        exact beq_self_eq_true _
      have h0 : (List.map (fun _ => Value.type "tuple") (Value.ref a :: vs)).toArray[0]? = some (Value.type "tuple") := by simp
      rw [h0]
      simp only [hall, if_true]
      exact wpAny_pure (wpAny_pure h)
end
section
variable {prog : Program} {w : World} {A : Around} {E : Value → Shared → Prop} {s : Shared}
def encT (x : List Int) : PyData := .tuple (x.map .int)
theorem alikeT (L : List (List Int)) : AllAlike (L.map encT) := AllAlike.of fun b b' => by
  show alike (.tuple _) (.tuple _) = true
  rw [alike, alike_ints]
theorem depthT (x : List Int) : (encT x).depth ≤ 1 := by
  show (PyData.tuple (x.map .int)).depth ≤ 1
  rw [PyData.depth, depth_ints]
  exact Nat.le_refl _
theorem dy_sorts {v0 : Value} {vs : List Value} {L : List (List Int)} (e : EachIs (fun v b => ∃ as, Reads s.heap v (encT b) as) (v0 :: vs) ([] :: L)) (hu : A.units + 2 < cLine) : SortsAt prog w A s (dataKind s.heap (([] :: L).map encT)) (v0 :: vs) := by
  have hal := alikeT ([] :: L)
  have e' := each_map (R := fun v d => ∃ as, Reads s.heap v d as) encT e
  have room : ∀ d ∈ ([] :: L).map encT, d.depth ≤ 1 := fun d hd => by
    obtain ⟨x, _, rfl⟩ := List.mem_map.mp hd
    exact depthT x
  have tp : ∀ d ∈ ([] :: L).map encT, ∃ xs, d = .tuple xs := fun d hd => by
    obtain ⟨x, _, rfl⟩ := List.mem_map.mp hd
    exact ⟨_, rfl⟩
  have rd : ∀ v ∈ v0 :: vs, ∃ a o xs n, v = .ref a ∧ s.heap.get? a = some o ∧ o.cls = .type "tuple" ∧ o.data = .seq xs n := fun v hv => by
    obtain ⟨d, hd, as, r⟩ := e'.left v hv
    obtain ⟨xs, rfl⟩ := tp d hd
    cases r with
    | @tuple l o vs n _ _ h1 h2 h3 h4 => exact ⟨l, o, vs, n, rfl, h1, h2, h3⟩
  refine ⟨fun v hv => ?_, oneType', ?_, fun hlen E Q hq => ?_⟩
  · obtain ⟨d, hd, as, r⟩ := e'.left v hv
    exact ⟨_, dataKind_some hal hd r⟩
  · intro E x y a b Q ha hb hq
    obtain ⟨d, as, hd, ra, rfl⟩ := dataKind_inv ha
    obtain ⟨d', as', hd', rb, rfl⟩ := dataKind_inv hb
    obtain ⟨xs, rfl⟩ := tp d hd
    obtain ⟨ys, rfl⟩ := tp d' hd'
    rw [keyLt'_oneType]
    refine dy_oneLt ra rb (hal _ hd _ hd') ?_ hq
    have := room _ hd
    have : min (PyData.tuple xs).depth (PyData.tuple ys).depth ≤ 1 := Nat.le_trans (Nat.min_le_left _ _) this
    omega
  · refine dy_kind ?_ (fun v hv => rd v (List.mem_cons_of_mem _ hv)) hq
    cases e with
    | cons h _ =>
      obtain ⟨as, r⟩ := h
      cases r with
      | @tuple l o vs n _ _ h1 h2 h3 h4 =>
        refine ⟨l, o, n, rfl, h1, h2, ?_⟩
        have : vs.toList = [] := by
          cases q : vs.toList with
          | nil => rfl
          | cons a b => rw [q] at h4; cases h4
        rw [h3]
        congr 1
        exact Array.toList_inj.mp this
theorem dy_sorted {l : Addr} {v0 : Value} {vs : List Value} {L : List (List Int)} {R : Value → List Int → Prop} {Q : Value → Shared → Prop} (hl : s.heap.IsList l (v0 :: vs).toArray) (e : EachIs R (v0 :: vs) ([] :: L)) (er : EachIs (fun v b => ∃ as, Reads s.heap v (encT b) as) (v0 :: vs) ([] :: L)) (hL : ([] :: L).length ≤ sizeLine)
    (hu : A.units + 4 < cLine) (h : ∀ out, out.length = ([] :: L).length → EachIs R out (([] :: L).mergeSort (dataLe false encT)) → Q (.ref (s.heap.objs.size + 1)) { s with heap := sortedAll s.heap (v0 :: vs) (List.toArray out) }) :
    wpAny (model prog w) A (call (.builtin "sorted") [.ref l]) Q E s := by
  have er' : EachIs (fun v b => ∃ as, Reads (sortingHeap (copyHeap s.heap (v0 :: vs)) (s.heap.objs.size + 1) (v0 :: vs)) v (encT b) as) (v0 :: vs) ([] :: L) := er.mono fun _ _ ⟨as, r⟩ => ⟨as, PyProof.Rows.Reads.keeps (fun _ _ => sorting_copy_old) r⟩
  exact sorted_vals hl (dy_sorts (s := { s with heap := sortingHeap (copyHeap s.heap (v0 :: vs)) (s.heap.objs.size + 1) (v0 :: vs) }) er' hu) (by rw [e.length]; exact hL)
    (h _ (by rw [sortVals_length false rfl]; exact e.length) (sortVals_data false e er' (alikeT _)))
end
end DL
set_option Elab.async false
set_option linter.all false
set_option maxRecDepth 100000
set_option maxHeartbeats 4000000
/-! DZ: sorted of number tuples the first of which is empty; tuples compared. -/
namespace DL
open PySem PySem.Spec PyProof.Rows L2 PySem.W
def sortE (L : List (List Int)) : List (List Int) := L.mergeSort (dataLe false encT)
theorem sortE_perm (L : List (List Int)) : (sortE L).Perm L := List.mergeSort_perm L _
def bSortedE : List D → Option D
  | [.lst ds] => (tupsL ds).bind fun L => match L with
    | [] :: _ => if L.length ≤ 1000000 then some (.lst ((sortE L).map fun x => .tup (x.map .int))) else none
    | _ => none
  | _ => none
theorem bSortedE_inv {ds : List D} {d : D} (h : bSortedE ds = some d) : ∃ L : List (List Int), ds = [.lst (([] :: L).map fun x => .tup (x.map .int))] ∧ ([] :: L).length ≤ 1000000 ∧ d = .lst ((sortE ([] :: L)).map fun x => .tup (x.map .int)) := by
  unfold bSortedE at h
  split at h
  · obtain ⟨L, e1, e2⟩ := Option.bind_eq_some_iff.mp h
    rw [tupsL_ds e1]
    split at e2
    · split at e2
      · rename_i q
        cases e2
        exact ⟨_, rfl, q, rfl⟩
      · cases e2
    · cases e2
  · cases h
theorem pys_ints2 : ∀ x : List Int, pys (x.map D.int) = x.map PyData.int
  | [] => rfl
  | a :: x => by rw [List.map_cons, pys, pys_ints2 x, D.py]; rfl
section
variable {X : Cx}
def RTu (H : Hp) (u : Value) (x : List Int) : Prop := ∃ t, u = .ref t ∧ Rd H t (.tup (x.map V.int))
theorem each_tups {S : Sr} {H : Hp} : ∀ {L : List (List Int)} {vs : List V} {us : List Value} {La : List Addr}, Rps S H vs (L.map fun x => .tup (x.map .int)) La → Vals vs us → EachIs (RTu H) us L
  | [], _, _, _, r, v => by
    cases r
    cases v
    exact .nil
  | x :: L, _, _, _, r, v => by
    cases r with
    | cons r rs =>
      cases v with
      | cons rv vs =>
        obtain ⟨t, us, rfl, ht, rus⟩ := r.itup
        have eu : us = x.map V.int := rus.intL (by rw [intL_ints])
        subst eu
        cases rv
        exact .cons ⟨t, rfl, ht⟩ (each_tups rs vs)
theorem rps_back {S : Sr} {H : Hp} : ∀ {L : List (List Int)} {us : List Value}, EachIs (RTu H) us L → Rps S H (us.map backV) (L.map fun x => .tup (x.map .int)) []
  | _, _, .nil => .nil
  | _, _, .cons (a := u) (b := x) (bs := L) (as := us) h t => by
    obtain ⟨a, rfl, ha⟩ := h
    exact .cons (L := []) (.tup ha (rps_ints x)) (rps_back t)
theorem each_refs {H : Hp} : ∀ {L : List (List Int)} {us : List Value}, EachIs (RTu H) us L → ∀ u ∈ us, ∃ a, u = Value.ref a
  | _, _, .nil => fun u hu => by simp at hu
  | _, _, .cons h t => fun u hu => by
    rcases List.mem_cons.mp hu with rfl | hu
    · obtain ⟨a, e, _⟩ := h
      exact ⟨a, e⟩
    · exact each_refs t u hu
theorem b_sortedE (hu : X.A.units + 64 < cLine) : CallR X (.builtin "sorted") (rDs bSortedE) := by
  intro pins s σ H xs us Q I r ⟨S, ds, d, La, hn, rs, e, q⟩
  obtain ⟨L, rfl, hL, rfl⟩ := bSortedE_inv e
  obtain ⟨v, rfl, rv⟩ := rs.i1
  obtain ⟨a, vs, L1, rfl, ea, na, rs', rfl⟩ := rv.ilst
  obtain ⟨u, rfl, rx⟩ := vals1 r
  cases rx
  obtain ⟨its, rl, pl, hz⟩ := I.list (SqL.of (K := X.K) ea)
  have ee := each_tups rs' rl
  have er : EachIs (fun v b => ∃ as, Reads s.heap v (encT b) as) its ([] :: L) := ee.mono fun u x ⟨t, eu, ht⟩ => by
    subst eu
    have rp : Rp S H (.ref t) (.tup (x.map .int)) [] := .tup ht (rps_ints x)
    have dp := rp.dp (K := X.K) 8 (dOk_ints x)
    have e2 : (D.tup (x.map .int)).py = encT x := by rw [D.py, pys_ints2]; rfl
    rw [e2] at dp
    exact Dp.reads I (encT x) _ _ dp rfl
  match its, ee, er, rl, pl with
  | v0 :: vs0, ee, er, rl, pl =>
    refine dy_sorted (E := X.xe) pl.isList ee er (size_ok hL) (by omega) fun out ho eo => ?_
    obtain ⟨c, hc⟩ := sortedAll_at s.heap (v0 :: vs0) out.toArray
    have np : H (s.heap.objs.size + 1) = none := I.hok.fresh (Nat.le_succ _)
    refine ⟨.ref (s.heap.objs.size + 1), upd H (s.heap.objs.size + 1) (.lst (out.map backV)), I.laid (t' := s.toks) (fun b o e => sortedAll_old e) (Nat.le_succ _) ⟨?_, out, c, vals_back (each_refs eo), hc⟩, rfl, q _ _ _ (HE.fresh np) (.lst upd_same (fun z => hn _ z np) ((rps_back eo).ext0 (HE.fresh np)))⟩
    rw [List.length_map, ho]
    exact size_ok hL
end
end DL
set_option Elab.async false
set_option linter.all false
set_option maxRecDepth 100000
set_option maxHeartbeats 4000000
/-! DZA: sorted(set(t)) of numbers; data compared by <. -/
namespace DL
open PySem PySem.Spec PyProof.Rows L2 PySem.W PySem.SeqAt
section
variable {X : Cx}
def tSortSet (K : PySem.W.Frag) (ta : TE) : TE := fun σ H Q => ta σ H fun x H1 => ∃ (l : Addr) (ns : List Int), x = V.ref l ∧ SqT K H1 l (ns.map V.int) ∧ ns.length < 60 ∧ ∀ (ms : List Int) (p : Addr), ms.Pairwise (· < ·) → (∀ k, k ∈ ms ↔ k ∈ ns) → H1 p = none → Q (.ref p) (upd H1 p (.lst (ms.map V.int)))
theorem pe_sortSet {a : Expr} {ta : TE} {p p2 q pos : Pos} (hc : X.calm = true) (hg : Gl X "sorted") (hm : X.mg "sorted" = none) (hg2 : Gl X "set") (hm2 : X.mg "set" = none) (ha : PE X a ta)
    (na : starEach [a] X.env = (false, eval a X.env) :: starEach [] X.env := by rfl) : PE X (.Call (.Name "sorted" p) [.Call (.Name "set" p2) [a] [] q] [] pos) (tSortSet X.K ta) := by
  refine ⟨fun pins s σ H Q I h => ?_⟩
  refine Call_ (ld_blt I hg hm PyProof.Rows.boot_sorted ?_)
  refine PyProof.Rows.callWith_builtin1 (PyProof.Rows.args_cons ?_ rfl) rfl rfl
  refine Call_ (ld_blt I hg2 hm2 PyProof.Rows.boot_set ?_)
  refine PyProof.Rows.callWith_type1 (PyProof.Rows.args_cons (thn (ha.run pins s σ H _ I h) fun v s1 ⟨x, H1, I1, r1, q1⟩ => PyProof.Rows.args_nil ?_) na) na rfl
  obtain ⟨l, ns, rfl, hq, h1, q1⟩ := q1
  cases r1
  obtain ⟨its, r, pl, hz⟩ := I1.tuple hq
  refine call_set_tupI ns (I1.ok.hd hc) pl (by simpa using r.ints) (by unfold scanBound; omega) fun h' tk c R hc2 hk => ?_
  refine PyProof.Rows.args_nil ?_
  have I2 : Inv X pins σ H1 { s1 with heap := h', toks := tk } := I1.kept fun b o e => hk b o e
  refine sorted_set (s := { s1 with heap := h', toks := tk }) R (I2.ok.hd hc) (by omega) fun s' p out c ms k g o hp hg hi hs hm hl => ?_
  have hlen : (ms.map V.int).length ≤ sizeLine := by rw [List.length_map, hl, sizeLine_eq]; omega
  have hn : H1 p = none := I2.hok.fresh hp
  have J : Inv X pins σ (upd H1 p (.lst (ms.map V.int))) { ({ s1 with heap := h', toks := tk } : Shared) with heap := s'.heap, gens := s'.gens, drawn := s'.drawn, toks := s'.toks } :=
    I2.call (ch := []) (Un.laid k hp hn) (I2.hok.laid k hp ⟨hlen, out.toList, c, vals_of_ints hi, hg⟩) (by rw [g]; exact I2.bare) (fun _ z => nomatch z)
  have e : s' = { ({ s1 with heap := h', toks := tk } : Shared) with heap := s'.heap, gens := s'.gens, drawn := s'.drawn, toks := s'.toks } := by
    cases s'
    cases s1
    cases o
    rfl
  rw [e]
  exact ⟨.ref p, _, J, rfl, q1 ms p hs (fun k => by rw [hm]; exact decide_eq_true_iff) hn⟩
/-- each number once -/
def ded : List Int → List Int
  | [] => []
  | a :: l => if a ∈ ded l then ded l else a :: ded l
theorem mem_ded {k : Int} : ∀ {l : List Int}, k ∈ ded l ↔ k ∈ l
  | [] => Iff.rfl
  | a :: l => by
    rw [ded, List.mem_cons, ← mem_ded (l := l)]
    by_cases h : a ∈ ded l
    · rw [if_pos h]
      exact ⟨.inr, fun z => z.elim (fun e => e ▸ h) id⟩
    · rw [if_neg h, List.mem_cons]
theorem nodup_ded : ∀ l : List Int, (ded l).Nodup
  | [] => List.nodup_nil
  | a :: l => by
    rw [ded]
    by_cases h : a ∈ ded l
    · rw [if_pos h]; exact nodup_ded l
    · rw [if_neg h]; exact List.nodup_cons.mpr ⟨h, nodup_ded l⟩
def sortS (l : List Int) : List Int := sortI (ded l)
theorem mem_sortS {k : Int} {l : List Int} : k ∈ sortS l ↔ k ∈ l := (sortI_perm _).mem_iff.trans mem_ded
theorem sortS_lt (l : List Int) : (sortS l).Pairwise (· < ·) := by
  have a := sortI_sorted (ded l)
  have b : (sortS l).Nodup := (sortI_perm (ded l)).nodup_iff.mpr (nodup_ded l)
  have c := List.pairwise_and_iff.mpr ⟨a, b⟩
  exact c.imp fun {x y} h => by
    have := h.1
    have := h.2
    omega
theorem strict_same : ∀ {a b : List Int}, a.Pairwise (· < ·) → b.Pairwise (· < ·) → (∀ k, k ∈ a ↔ k ∈ b) → a = b
  | [], [], _, _, _ => rfl
  | [], y :: b, _, _, h => absurd ((h y).mpr List.mem_cons_self) (by simp)
  | x :: a, [], _, _, h => absurd ((h x).mp List.mem_cons_self) (by simp)
  | x :: a, y :: b, p, q, h => by
    obtain ⟨p1, p2⟩ := List.pairwise_cons.mp p
    obtain ⟨q1, q2⟩ := List.pairwise_cons.mp q
    have e : x = y := by
      rcases List.mem_cons.mp ((h x).mp List.mem_cons_self) with e | e
      · exact e
      · rcases List.mem_cons.mp ((h y).mpr List.mem_cons_self) with f | f
        · exact f.symm
        · have := q1 x e
          have := p1 y f
          omega
    subst e
    rw [strict_same p2 q2 fun k => ?_]
    constructor
    · intro hk
      rcases List.mem_cons.mp ((h k).mp (List.mem_cons_of_mem _ hk)) with e | e
      · have := p1 k hk
        omega
      · exact e
    · intro hk
      rcases List.mem_cons.mp ((h k).mpr (List.mem_cons_of_mem _ hk)) with e | e
      · have := q1 k hk
        omega
      · exact e
def mSortSet : D → Option D
  | .tup xs => (intL xs).bind fun ns => if ns.length < 60 then some (.lst ((sortS ns).map .int)) else none
  | _ => none
theorem mSortSet_inv {d e : D} (h : mSortSet d = some e) : ∃ ns : List Int, d = .tup (ns.map .int) ∧ ns.length < 60 ∧ e = .lst ((sortS ns).map .int) := by
  unfold mSortSet at h
  split at h
  · obtain ⟨ns, e1, e2⟩ := Option.bind_eq_some_iff.mp h
    rw [intL_ds e1]
    split at e2
    · rename_i q
      cases e2
      exact ⟨ns, rfl, q, rfl⟩
    · cases e2
  · cases h
theorem d_sortSet {a : Expr} {f : FE} {p p2 q pos : Pos} (hc : X.calm = true) (hg : Gl X "sorted") (hm : X.mg "sorted" = none) (hg2 : Gl X "set") (hm2 : X.mg "set" = none) (ha : DE X a f)
    (na : starEach [a] X.env = (false, eval a X.env) :: starEach [] X.env := by rfl) : DE X (.Call (.Name "sorted" p) [.Call (.Name "set" p2) [a] [] q] [] pos) (e1 mSortSet f) := (pe_sortSet hc hg hm hg2 hm2 ha na).imp fun σ H Q ⟨S, δ, st, d, st', rs, so, e, q⟩ => by
  obtain ⟨x, s1, ea, e3⟩ := bd_inv e
  obtain ⟨eo, es⟩ := of_inv e3
  clear e3
  subst es
  obtain ⟨ns, rfl, hl, rfl⟩ := mSortSet_inv eo
  refine ⟨S, δ, st, _, _, rs, so, ea, fun v H1 L1 x1 so1 r1 => ?_⟩
  obtain ⟨t, us, rfl, ht, rus⟩ := r1.itup
  have eu : us = ns.map V.int := rus.intL (by rw [intL_ints])
  subst eu
  refine ⟨t, ns, rfl, .inl ht, hl, fun ms p h1 h2 np => ?_⟩
  have em : ms = sortS ns := strict_same h1 (sortS_lt ns) fun k => (h2 k).trans mem_sortS.symm
  subst em
  exact q _ _ _ (x1.trans (HE.fresh np)) (so1.ext0 (HE.fresh np)) (.lst upd_same (fun z => so1.tr _ z np) ((rps_ints _).ext0 (HE.fresh np)))
/-! data compared -/
def dLtD : D → D → Option D
  | .tup xs, .tup ys => if (dOk 8 (.tup xs) && dOk 8 (.tup ys) && alike (D.tup xs).py (D.tup ys).py) = true then some (.bl (dataLt (D.tup xs).py (D.tup ys).py)) else none
  | _, _ => none
theorem o_ltD (hu : X.A.units + 64 < cLine) : OpR X (compareOp .Lt) (rD2 dLtD) := by
  intro pins s σ H x y v u Q I rx ry ⟨S, a, b, d, La, Lb, hn, ra, rb, e, q⟩
  unfold dLtD at e
  split at e
  · split at e
    · rename_i xs ys hk
      cases e
      rw [Bool.and_eq_true, Bool.and_eq_true] at hk
      obtain ⟨⟨h1, h2⟩, h3⟩ := hk
      obtain ⟨as, q1⟩ := Dp.reads (X := X) I _ x v (ra.dp 8 h1) rx
      obtain ⟨bs, q2⟩ := Dp.reads (X := X) I _ y u (rb.dp 8 h2) ry
      have hd := (dOk_ok 8 _ h1).2
      have hne : (D.tup xs).py ≠ .none := by rw [D.py]; exact fun z => nomatch z
      exact rcLt_alike _ _ X.A s v u as bs q1 q2 h3 hne (by
        have := Nat.min_le_left (D.tup xs).py.depth (D.tup ys).py.depth
        omega) X.prog X.w X.xe _ ⟨.bl _, H, I, rfl, q _ H [] HE.refl (.bl _)⟩
    · cases e
  · cases e
end
end DL
/-! DLX: the layer, whole. -/
set_option Elab.async false
set_option linter.all false
set_option maxRecDepth 100000
set_option maxHeartbeats 4000000
/-! PA: printed by gen2.py -/
namespace PF
open PySem PySem.Spec PyProof.Rows L2 DL
/-! greatest_divisor -/
def b_greatest_divisor_1 : FS := (sPar 0 1 (eAs (eVar 1) (eAs (e2 dMod (eVar 0) (eVar 1)) eAs0)))
def t_greatest_divisor_2 : Ev → M Bool := (bOf (e2 dNe (eVar 1) (eC (.int 0))))
def g_greatest_divisor : FS := (sSeq (sPar 0 1 (eAs (eCall bAbs (eAs (eVar 0) eAs0)) (eAs (eCall bAbs (eAs (eVar 1) eAs0)) eAs0)))
  (sSeq (wLp t_greatest_divisor_2 b_greatest_divisor_1 1000000)
  (sRet (eVar 0))))
def F_greatest_divisor : List D → M D := run 2 g_greatest_divisor
theorem R_greatest_divisor {a0 a1 d : D} {s s1 : Src} (h : Yl (g_greatest_divisor [.rd a0, .rd a1] s) (.rt d) s1) : Yl (F_greatest_divisor [a0, a1] s) d s1 := run_rt h
theorem N_greatest_divisor {a0 a1 : D} {δ : Ev} {s s1 : Src} (h : Yl (g_greatest_divisor [.rd a0, .rd a1] s) (.nx δ) s1) : Yl (F_greatest_divisor [a0, a1] s) .non s1 := run_nx h
/-! fraction -/
def g_fraction : FS := (sSeq (sIf (bOf (e2 dLt (eVar 1) (eC (.int 0)))) (sPar 0 1 (eAs (e1 dNeg (eVar 0)) (eAs (e1 dNeg (eVar 1)) eAs0))) sNil)
  (sSeq (sSet 2 (eCall bMax2 (eAs (eC (.int 1)) (eAs (eFn (fun ds => if ds.length = 2 then F_greatest_divisor ds else M.no) (eAs (eVar 0) (eAs (eVar 1) eAs0))) eAs0))))
  (sRet (eTup (eAs (e2 dDiv (eVar 0) (eVar 2)) (eAs (e2 dDiv (eVar 1) (eVar 2)) eAs0))))))
def F_fraction : List D → M D := run 3 g_fraction
theorem R_fraction {a0 a1 d : D} {s s1 : Src} (h : Yl (g_fraction [.rd a0, .rd a1, .no] s) (.rt d) s1) : Yl (F_fraction [a0, a1] s) d s1 := run_rt h
theorem N_fraction {a0 a1 : D} {δ : Ev} {s s1 : Src} (h : Yl (g_fraction [.rd a0, .rd a1, .no] s) (.nx δ) s1) : Yl (F_fraction [a0, a1] s) .non s1 := run_nx h
/-! is_integer -/
def g_is_integer : FS := (sRet (eAnd (e1 (isiD "int") (eVar 0)) (eNot (e1 (isiD "bool") (eVar 0)))))
def F_is_integer : List D → M D := run 1 g_is_integer
theorem R_is_integer {a0 d : D} {s s1 : Src} (h : Yl (g_is_integer [.rd a0] s) (.rt d) s1) : Yl (F_is_integer [a0] s) d s1 := run_rt h
theorem N_is_integer {a0 : D} {δ : Ev} {s s1 : Src} (h : Yl (g_is_integer [.rd a0] s) (.nx δ) s1) : Yl (F_is_integer [a0] s) .non s1 := run_nx h
/-! check_table -/
def c_check_table_1 : FE := (eLc (iSeq (eVar 1)) [3] (gN 3) bYes (eOr (eNot (eFn (fun ds => if ds.length = 1 then F_is_integer ds else M.no) (eAs (eVar 3) eAs0))) (eNot (eCh dLe dLe (eC (.int 0)) (eVar 3) (eC (.int 1000))))))
def b_check_table_2 : FS := (sSeq (sIf (bOr (bNot (bTr (e1 (isiD "tuple") (eVar 1)))) (bOf (e2 dNe (eCall bLen (eAs (eVar 1) eAs0)) (eCall bLen (eAs (eVar 0) eAs0))))) sNo sNil)
  (sIf (bTr (eCall bAny (eAs c_check_table_1 eAs0))) sNo sNil))
def c_check_table_3 : FE := (eLc (iOf rg1 (eAs (eVar 2) eAs0)) [4] (gN 4) bYes (e2 dNe (e2 dIx (eVar 1) (eVar 4)) (e2 dIx (e2 dIx (eVar 0) (eVar 4)) (eVar 2))))
def b_check_table_4 : FS := (sIf (bOr (bOf (e2 dNe (e2 dIx (eVar 1) (eVar 2)) (eC (.int 0)))) (bTr (eCall bAny (eAs c_check_table_3 eAs0)))) sNo sNil)
def g_check_table : FS := (sSeq (sIf (bOr (bNot (bTr (e1 (isiD "tuple") (eVar 0)))) (bNot (bOf (eCh dLe dLe (eC (.int 1)) (eCall bLen (eAs (eVar 0) eAs0)) (eC (.int 8)))))) sNo sNil)
  (sSeq (sFor (iSeqT (eVar 0)) (gN 1) b_check_table_2)
  (sFor (iOf en1T (eAs (eVar 0) eAs0)) (gT 2 (gsC (gN 2) (gsC (gN 1) gs0))) b_check_table_4)))
def F_check_table : List D → M D := run 5 g_check_table
theorem R_check_table {a0 d : D} {s s1 : Src} (h : Yl (g_check_table [.rd a0, .no, .no, .no, .no] s) (.rt d) s1) : Yl (F_check_table [a0] s) d s1 := run_rt h
theorem N_check_table {a0 : D} {δ : Ev} {s s1 : Src} (h : Yl (g_check_table [.rd a0, .no, .no, .no, .no] s) (.nx δ) s1) : Yl (F_check_table [a0] s) .non s1 := run_nx h
/-! choices -/
def c_choices_1 : FE := (eLc2 (iSeq (eVar 2)) [4, 5] (gN 4) bYes (iOf rg2 (eAs (eIf (bTr (eVar 4)) (e2 dAdd (e2 dIx (eVar 4) (e1 dNeg (eC (.int 1)))) (eC (.int 1))) (eC (.int 0))) (eAs (eVar 0) eAs0))) [5] (gN 5) bYes (eLf (e2 dAdd (eVar 4) (eTup (eAs (eVar 5) eAs0)))))
def b_choices_2 : FS := (sOwn 2 c_choices_1)
def g_choices : FS := (sSeq (sOwn 2 (eLst (eAs (eLf (eTup eAs0)) eAs0)))
  (sSeq (sFor (iOf rg1 (eAs (eVar 1) eAs0)) (gN 3) b_choices_2)
  (sRet (eVar 2))))
def F_choices : List D → M D := run 6 g_choices
theorem R_choices {a0 a1 d : D} {s s1 : Src} (h : Yl (g_choices [.rd a0, .rd a1, .no, .no, .no, .no] s) (.rt d) s1) : Yl (F_choices [a0, a1] s) d s1 := run_rt h
theorem N_choices {a0 a1 : D} {δ : Ev} {s s1 : Src} (h : Yl (g_choices [.rd a0, .rd a1, .no, .no, .no, .no] s) (.nx δ) s1) : Yl (F_choices [a0, a1] s) .non s1 := run_nx h
/-! distance_paper -/
def b_distance_paper_1 : FS := (sIf (bOf (e2 dEq (e2 dIx (e2 dIx (eVar 0) (eVar 1)) (eVar 2)) (eC (.int 0)))) (sRet (eTup (eAs (eC (.str "same")) (eAs (eVar 1) (eAs (eVar 2) eAs0))))) sNil)
def b_distance_paper_2 : FS := (sIf (bOf (e2 dLt (e2 dAdd (e2 dIx (e2 dIx (eVar 0) (eVar 1)) (eVar 3)) (e2 dIx (e2 dIx (eVar 0) (eVar 3)) (eVar 2))) (e2 dIx (e2 dIx (eVar 0) (eVar 1)) (eVar 2)))) (sRet (eTup (eAs (eC (.str "short")) (eAs (eVar 1) (eAs (eVar 3) (eAs (eVar 2) eAs0)))))) sNil)
def b_distance_paper_3 : FS := (sFor (iOf rg1 (eAs (eCall bLen (eAs (eVar 0) eAs0)) eAs0)) (gN 3) b_distance_paper_2)
def g_distance_paper : FS := (sSeq (sExp (eFn (fun ds => if ds.length = 1 then F_check_table ds else M.no) (eAs (eVar 0) eAs0)))
  (sSeq (sForN (iSeq (eFn (fun ds => if ds.length = 2 then F_choices ds else M.no) (eAs (eCall bLen (eAs (eVar 0) eAs0)) (eAs (eC (.int 2)) eAs0)))) (gT 2 (gsC (gN 1) (gsC (gN 2) gs0))) b_distance_paper_1)
  (sSeq (sForN (iSeq (eFn (fun ds => if ds.length = 2 then F_choices ds else M.no) (eAs (eCall bLen (eAs (eVar 0) eAs0)) (eAs (eC (.int 2)) eAs0)))) (gT 2 (gsC (gN 1) (gsC (gN 2) gs0))) b_distance_paper_3)
  (sRet (eTup (eAs (eC (.str "distances")) eAs0))))))
def F_distance_paper : List D → M D := run 4 g_distance_paper
theorem R_distance_paper {a0 d : D} {s s1 : Src} (h : Yl (g_distance_paper [.rd a0, .no, .no, .no] s) (.rt d) s1) : Yl (F_distance_paper [a0] s) d s1 := run_rt h
theorem N_distance_paper {a0 : D} {δ : Ev} {s s1 : Src} (h : Yl (g_distance_paper [.rd a0, .no, .no, .no] s) (.nx δ) s1) : Yl (F_distance_paper [a0] s) .non s1 := run_nx h
/-! check_distances -/
def g_check_distances : FS := (sIf (bOf (e2 dNe (eFn (fun ds => if ds.length = 1 then F_distance_paper ds else M.no) (eAs (eVar 0) eAs0)) (eTup (eAs (eC (.str "distances")) eAs0)))) sNo sNil)
def F_check_distances : List D → M D := run 1 g_check_distances
theorem R_check_distances {a0 d : D} {s s1 : Src} (h : Yl (g_check_distances [.rd a0] s) (.rt d) s1) : Yl (F_check_distances [a0] s) d s1 := run_rt h
theorem N_check_distances {a0 : D} {δ : Ev} {s s1 : Src} (h : Yl (g_check_distances [.rd a0] s) (.nx δ) s1) : Yl (F_check_distances [a0] s) .non s1 := run_nx h
/-! widths -/
def c_widths_1 : FE := (eLc (iSeq (eVar 0)) [1] (gN 1) bYes (eCall bMaxS (eAs (eVar 1) eAs0)))
def g_widths : FS := (sSeq (sExp (eFn (fun ds => if ds.length = 1 then F_check_table ds else M.no) (eAs (eVar 0) eAs0)))
  (sRet (eCall bTup (eAs c_widths_1 eAs0))))
def F_widths : List D → M D := run 2 g_widths
theorem R_widths {a0 d : D} {s s1 : Src} (h : Yl (g_widths [.rd a0, .no] s) (.rt d) s1) : Yl (F_widths [a0] s) d s1 := run_rt h
theorem N_widths {a0 : D} {δ : Ev} {s s1 : Src} (h : Yl (g_widths [.rd a0, .no] s) (.nx δ) s1) : Yl (F_widths [a0] s) .non s1 := run_nx h
/-! diameter -/
def g_diameter : FS := (sRet (eCall bMaxS (eAs (eFn (fun ds => if ds.length = 1 then F_widths ds else M.no) (eAs (eVar 0) eAs0)) eAs0)))
def F_diameter : List D → M D := run 1 g_diameter
theorem R_diameter {a0 d : D} {s s1 : Src} (h : Yl (g_diameter [.rd a0] s) (.rt d) s1) : Yl (F_diameter [a0] s) d s1 := run_rt h
theorem N_diameter {a0 : D} {δ : Ev} {s s1 : Src} (h : Yl (g_diameter [.rd a0] s) (.nx δ) s1) : Yl (F_diameter [a0] s) .non s1 := run_nx h
/-! radius -/
def c_radius_1 : FE := (eLc (iOf en1 (eAs (eVar 1) eAs0)) [2, 3] (gT 2 (gsC (gN 2) (gsC (gN 3) gs0))) (bOf (e2 dEq (eVar 3) (eCall bMinS (eAs (eVar 1) eAs0)))) (eVar 2))
def g_radius : FS := (sSeq (sSet 1 (eFn (fun ds => if ds.length = 1 then F_widths ds else M.no) (eAs (eVar 0) eAs0)))
  (sRet (eTup (eAs (eCall bMinS (eAs (eVar 1) eAs0)) (eAs (eCall bTup (eAs c_radius_1 eAs0)) eAs0)))))
def F_radius : List D → M D := run 4 g_radius
theorem R_radius {a0 d : D} {s s1 : Src} (h : Yl (g_radius [.rd a0, .no, .no, .no] s) (.rt d) s1) : Yl (F_radius [a0] s) d s1 := run_rt h
theorem N_radius {a0 : D} {δ : Ev} {s s1 : Src} (h : Yl (g_radius [.rd a0, .no, .no, .no] s) (.nx δ) s1) : Yl (F_radius [a0] s) .non s1 := run_nx h
/-! check_weights -/
def c_check_weights_1 : FE := (eLc (iSeq (eVar 1)) [2] (gN 2) bYes (eOr (eNot (eFn (fun ds => if ds.length = 1 then F_is_integer ds else M.no) (eAs (eVar 2) eAs0))) (e2 dLt (eVar 2) (eC (.int 0)))))
def g_check_weights : FS := (sSeq (sIf (bOr (bNot (bTr (e1 (isiD "tuple") (eVar 1)))) (bOf (e2 dNe (eCall bLen (eAs (eVar 1) eAs0)) (eVar 0)))) sNo sNil)
  (sIf (bOr (bTr (eCall bAny (eAs c_check_weights_1 eAs0))) (bNot (bTr (eCall bAnyI (eAs (eVar 1) eAs0))))) sNo sNil))
def F_check_weights : List D → M D := run 3 g_check_weights
theorem R_check_weights {a0 a1 d : D} {s s1 : Src} (h : Yl (g_check_weights [.rd a0, .rd a1, .no] s) (.rt d) s1) : Yl (F_check_weights [a0, a1] s) d s1 := run_rt h
theorem N_check_weights {a0 a1 : D} {δ : Ev} {s s1 : Src} (h : Yl (g_check_weights [.rd a0, .rd a1, .no] s) (.nx δ) s1) : Yl (F_check_weights [a0, a1] s) .non s1 := run_nx h
/-! sums_of -/
def c_sums_of_1 : FE := (eLc (iOf zp2 (eAs (eVar 1) (eAs (eVar 2) eAs0))) [3, 4] (gT 2 (gsC (gN 3) (gsC (gN 4) gs0))) bYes (e2 dMul (eVar 3) (eVar 4)))
def c_sums_of_2 : FE := (eLc (iSeq (eVar 0)) [2] (gN 2) bYes (eCall bSumS (eAs c_sums_of_1 eAs0)))
def g_sums_of : FS := (sSeq (sExp (eFn (fun ds => if ds.length = 1 then F_check_distances ds else M.no) (eAs (eVar 0) eAs0)))
  (sSeq (sExp (eFn (fun ds => if ds.length = 2 then F_check_weights ds else M.no) (eAs (eCall bLen (eAs (eVar 0) eAs0)) (eAs (eVar 1) eAs0))))
  (sRet (eCall bTup (eAs c_sums_of_2 eAs0)))))
def F_sums_of : List D → M D := run 5 g_sums_of
theorem R_sums_of {a0 a1 d : D} {s s1 : Src} (h : Yl (g_sums_of [.rd a0, .rd a1, .no, .no, .no] s) (.rt d) s1) : Yl (F_sums_of [a0, a1] s) d s1 := run_rt h
theorem N_sums_of {a0 a1 : D} {δ : Ev} {s s1 : Src} (h : Yl (g_sums_of [.rd a0, .rd a1, .no, .no, .no] s) (.nx δ) s1) : Yl (F_sums_of [a0, a1] s) .non s1 := run_nx h
/-! least_sums -/
def c_least_sums_1 : FE := (eLc (iOf en1 (eAs (eVar 2) eAs0)) [3, 4] (gT 2 (gsC (gN 3) (gsC (gN 4) gs0))) (bOf (e2 dEq (eVar 4) (eCall bMinS (eAs (eVar 2) eAs0)))) (eVar 3))
def g_least_sums : FS := (sSeq (sSet 2 (eFn (fun ds => if ds.length = 2 then F_sums_of ds else M.no) (eAs (eVar 0) (eAs (eVar 1) eAs0))))
  (sRet (eTup (eAs (eCall bMinS (eAs (eVar 2) eAs0)) (eAs (eCall bTup (eAs c_least_sums_1 eAs0)) eAs0)))))
def F_least_sums : List D → M D := run 5 g_least_sums
theorem R_least_sums {a0 a1 d : D} {s s1 : Src} (h : Yl (g_least_sums [.rd a0, .rd a1, .no, .no, .no] s) (.rt d) s1) : Yl (F_least_sums [a0, a1] s) d s1 := run_rt h
theorem N_least_sums {a0 a1 : D} {δ : Ev} {s s1 : Src} (h : Yl (g_least_sums [.rd a0, .rd a1, .no, .no, .no] s) (.nx δ) s1) : Yl (F_least_sums [a0, a1] s) .non s1 := run_nx h
/-! mean_of -/
def c_mean_of_1 : FE := (eLc (iOf zp2 (eAs (eVar 1) (eAs (eVar 2) eAs0))) [4, 5] (gT 2 (gsC (gN 4) (gsC (gN 5) gs0))) bYes (e2 dMul (eVar 4) (eVar 5)))
def g_mean_of : FS := (sSeq (sSet 2 (eFn (fun ds => if ds.length = 2 then F_sums_of ds else M.no) (eAs (eVar 0) (eAs (eVar 1) eAs0))))
  (sSeq (sSet 3 (eCall bSumS (eAs (eVar 1) eAs0)))
  (sRet (eFn (fun ds => if ds.length = 2 then F_fraction ds else M.no) (eAs (eCall bSumS (eAs c_mean_of_1 eAs0)) (eAs (e2 dMul (eVar 3) (eVar 3)) eAs0))))))
def F_mean_of : List D → M D := run 6 g_mean_of
theorem R_mean_of {a0 a1 d : D} {s s1 : Src} (h : Yl (g_mean_of [.rd a0, .rd a1, .no, .no, .no, .no] s) (.rt d) s1) : Yl (F_mean_of [a0, a1] s) d s1 := run_rt h
theorem N_mean_of {a0 a1 : D} {δ : Ev} {s s1 : Src} (h : Yl (g_mean_of [.rd a0, .rd a1, .no, .no, .no, .no] s) (.nx δ) s1) : Yl (F_mean_of [a0, a1] s) .non s1 := run_nx h
/-! _law_shuffled -/
def g__law_shuffled : FS := (sSeq (sOwn 2 (eLstR1 (eVar 1)))
  sShuf)
def F__law_shuffled : List D → M D := run 4 g__law_shuffled
theorem R__law_shuffled {a0 a1 d : D} {s s1 : Src} (h : Yl (g__law_shuffled [.rd a0, .rd a1, .no, .no] s) (.rt d) s1) : Yl (F__law_shuffled [a0, a1] s) d s1 := run_rt h
theorem N__law_shuffled {a0 a1 : D} {δ : Ev} {s s1 : Src} (h : Yl (g__law_shuffled [.rd a0, .rd a1, .no, .no] s) (.nx δ) s1) : Yl (F__law_shuffled [a0, a1] s) .non s1 := run_nx h
/-! _law_tree -/
def b__law_tree_1 : FS := (sSeq (sSet 8 (e2 dIx (eVar 5) (eFn (fun ds => if ds.length = 2 then F__law_take ds else M.no) (eAs (eVar 0) (eAs (eVar 7) eAs0)))))
  (sApp 6 (eTup (eAs (eCall bMin2 (eAs (eVar 8) (eAs (e2 dIx (eVar 5) (eVar 7)) eAs0))) (eAs (eCall bMax2 (eAs (eVar 8) (eAs (e2 dIx (eVar 5) (eVar 7)) eAs0))) (eAs (e2 dAdd (eC (.int 1)) (eFn (fun ds => if ds.length = 2 then F__law_take ds else M.no) (eAs (eVar 0) (eAs (eVar 3) eAs0)))) eAs0))))))
def g__law_tree : FS := (sSeq (sSet 4 (e2 dAdd (eVar 1) (eFn (fun ds => if ds.length = 2 then F__law_take ds else M.no) (eAs (eVar 0) (eAs (e2 dAdd (eVar 2) (eC (.int 1))) eAs0)))))
  (sSeq (sSet 5 (eFn (fun ds => if ds.length = 2 then F__law_shuffled ds else M.no) (eAs (eVar 0) (eAs (eVar 4) eAs0))))
  (sSeq (sOwn 6 (eLst eAs0))
  (sSeq (sFor (iOf rg2 (eAs (eC (.int 1)) (eAs (eVar 4) eAs0))) (gN 7) b__law_tree_1)
  (sRet (eLst (eAs (eVar 4) (eAs (eCall bTup (eAs (eCall bSorted (eAs (eVar 6) eAs0)) eAs0)) eAs0))))))))
def F__law_tree : List D → M D := run 9 g__law_tree
theorem R__law_tree {a0 a1 a2 a3 d : D} {s s1 : Src} (h : Yl (g__law_tree [.rd a0, .rd a1, .rd a2, .rd a3, .no, .no, .no, .no, .no] s) (.rt d) s1) : Yl (F__law_tree [a0, a1, a2, a3] s) d s1 := run_rt h
theorem N__law_tree {a0 a1 a2 a3 : D} {δ : Ev} {s s1 : Src} (h : Yl (g__law_tree [.rd a0, .rd a1, .rd a2, .rd a3, .no, .no, .no, .no, .no] s) (.nx δ) s1) : Yl (F__law_tree [a0, a1, a2, a3] s) .non s1 := run_nx h
/-! _law_along -/
def c__law_along_1 : FE := (eLc (iOf rg1 (eAs (eVar 0) eAs0)) [8] (gN 8) bYes (eLf (eIf (bOf (e2 dEq (eVar 3) (eVar 8))) (eC (.int 0)) (eC .non))))
def c__law_along_2 : FE := (eLc (iOf rg1 (eAs (eVar 0) eAs0)) [3] (gN 3) bYes c__law_along_1)
def b__law_along_3 : FS := (sSeq (sIf (bAnd (bOf (e2 dIsN (e2 dIx (e2 dIx (eVar 2) (eVar 3)) (eVar 5)) (eC .non))) (bOf (e2 dIs (e2 dIx (e2 dIx (eVar 2) (eVar 3)) (eVar 6)) (eC .non)))) (sSub2 2 (eVar 3) (eVar 6) (e2 dAdd (e2 dIx (e2 dIx (eVar 2) (eVar 3)) (eVar 5)) (eVar 7))) sNil)
  (sIf (bAnd (bOf (e2 dIsN (e2 dIx (e2 dIx (eVar 2) (eVar 3)) (eVar 6)) (eC .non))) (bOf (e2 dIs (e2 dIx (e2 dIx (eVar 2) (eVar 3)) (eVar 5)) (eC .non)))) (sSub2 2 (eVar 3) (eVar 5) (e2 dAdd (e2 dIx (e2 dIx (eVar 2) (eVar 3)) (eVar 6)) (eVar 7))) sNil))
def b__law_along_4 : FS := (sFor (iSeqT (eVar 1)) (gT 3 (gsC (gN 5) (gsC (gN 6) (gsC (gN 7) gs0)))) b__law_along_3)
def b__law_along_5 : FS := (sFor (iOf rg1 (eAs (eVar 0) eAs0)) (gN 4) b__law_along_4)
def g__law_along : FS := (sSeq (sOwn 2 c__law_along_2)
  (sSeq (sFor (iOf rg1 (eAs (eVar 0) eAs0)) (gN 3) b__law_along_5)
  (sRet (eVar 2))))
def F__law_along : List D → M D := run 9 g__law_along
theorem R__law_along {a0 a1 d : D} {s s1 : Src} (h : Yl (g__law_along [.rd a0, .rd a1, .no, .no, .no, .no, .no, .no, .no] s) (.rt d) s1) : Yl (F__law_along [a0, a1] s) d s1 := run_rt h
theorem N__law_along {a0 a1 : D} {δ : Ev} {s s1 : Src} (h : Yl (g__law_along [.rd a0, .rd a1, .no, .no, .no, .no, .no, .no, .no] s) (.nx δ) s1) : Yl (F__law_along [a0, a1] s) .non s1 := run_nx h
/-! _law_table -/
def c__law_table_1 : FE := (eLc (iOf rg1 (eAs (eVar 1) eAs0)) [6] (gN 6) bYes (eRepF (eLst (eAs (eC (.int 0)) eAs0)) (eVar 1)))
def b__law_table_2 : FS := (sSeq (sSub2 3 (eVar 4) (eVar 5) (e2 dAdd (eC (.int 1)) (eFn (fun ds => if ds.length = 2 then F__law_take ds else M.no) (eAs (eVar 0) (eAs (eVar 2) eAs0)))))
  (sSub2 3 (eVar 5) (eVar 4) (e2 dIx (e2 dIx (eVar 3) (eVar 4)) (eVar 5))))
def b__law_table_3 : FS := (sFor (iOf rg1 (eAs (eVar 4) eAs0)) (gN 5) b__law_table_2)
def c__law_table_4 : FE := (eLc (iSeq (eVar 3)) [7] (gN 7) bYes (eCall bTup (eAs (eVar 7) eAs0)))
def g__law_table : FS := (sSeq (sOwn 3 c__law_table_1)
  (sSeq (sFor (iOf rg1 (eAs (eVar 1) eAs0)) (gN 4) b__law_table_3)
  (sRet (eCall bTup (eAs c__law_table_4 eAs0)))))
def F__law_table : List D → M D := run 8 g__law_table
theorem R__law_table {a0 a1 a2 d : D} {s s1 : Src} (h : Yl (g__law_table [.rd a0, .rd a1, .rd a2, .no, .no, .no, .no, .no] s) (.rt d) s1) : Yl (F__law_table [a0, a1, a2] s) d s1 := run_rt h
theorem N__law_table {a0 a1 a2 : D} {δ : Ev} {s s1 : Src} (h : Yl (g__law_table [.rd a0, .rd a1, .rd a2, .no, .no, .no, .no, .no] s) (.nx δ) s1) : Yl (F__law_table [a0, a1, a2] s) .non s1 := run_nx h
/-! _law_short -/
def c__law_short_1 : FE := (eLc (iSeq (eVar 0)) [6] (gN 6) bYes (eCall bListF (eAs (eVar 6) eAs0)))
def b__law_short_2 : FS := (sSub2 2 (eVar 4) (eVar 5) (eCall bMin2 (eAs (e2 dIx (e2 dIx (eVar 2) (eVar 4)) (eVar 5)) (eAs (e2 dAdd (e2 dIx (e2 dIx (eVar 2) (eVar 4)) (eVar 3)) (e2 dIx (e2 dIx (eVar 2) (eVar 3)) (eVar 5))) eAs0))))
def b__law_short_3 : FS := (sFor (iOf rg1 (eAs (eVar 1) eAs0)) (gN 5) b__law_short_2)
def b__law_short_4 : FS := (sFor (iOf rg1 (eAs (eVar 1) eAs0)) (gN 4) b__law_short_3)
def c__law_short_5 : FE := (eLc (iSeq (eVar 2)) [6] (gN 6) bYes (eCall bTup (eAs (eVar 6) eAs0)))
def g__law_short : FS := (sSeq (sSet 1 (eCall bLen (eAs (eVar 0) eAs0)))
  (sSeq (sOwn 2 c__law_short_1)
  (sSeq (sFor (iOf rg1 (eAs (eVar 1) eAs0)) (gN 3) b__law_short_4)
  (sRet (eCall bTup (eAs c__law_short_5 eAs0))))))
def F__law_short : List D → M D := run 7 g__law_short
theorem R__law_short {a0 d : D} {s s1 : Src} (h : Yl (g__law_short [.rd a0, .no, .no, .no, .no, .no, .no] s) (.rt d) s1) : Yl (F__law_short [a0] s) d s1 := run_rt h
theorem N__law_short {a0 : D} {δ : Ev} {s s1 : Src} (h : Yl (g__law_short [.rd a0, .no, .no, .no, .no, .no, .no] s) (.nx δ) s1) : Yl (F__law_short [a0] s) .non s1 := run_nx h
/-! _law_pick -/
def g__law_pick : FS := (sRet (e2 dIx (eVar 1) (eFn (fun ds => if ds.length = 2 then F__law_take ds else M.no) (eAs (eVar 0) (eAs (eCall bLen (eAs (eVar 1) eAs0)) eAs0)))))
def F__law_pick : List D → M D := run 2 g__law_pick
theorem R__law_pick {a0 a1 d : D} {s s1 : Src} (h : Yl (g__law_pick [.rd a0, .rd a1] s) (.rt d) s1) : Yl (F__law_pick [a0, a1] s) d s1 := run_rt h
theorem N__law_pick {a0 a1 : D} {δ : Ev} {s s1 : Src} (h : Yl (g__law_pick [.rd a0, .rd a1] s) (.nx δ) s1) : Yl (F__law_pick [a0, a1] s) .non s1 := run_nx h
/-! _law_distances -/
def c__law_distances_1 : FE := (eLc (iSeq (eSl (eVar 5) fNo (fSo (eVar 1)))) [10] (gN 10) bYes (eCall bTup (eAs (eSl (eVar 10) fNo (fSo (eVar 1))) eAs0)))
def c__law_distances_2 : FE := (eLc (iSeq (eFn (fun ds => if ds.length = 3 then F__law_table ds else M.no) (eAs (eVar 0) (eAs (eVar 1) (eAs (eC (.int 9)) eAs0))))) [10] (gN 10) bYes (eCall bListF (eAs (eVar 10) eAs0)))
def b__law_distances_3 : FS := (sSub2 6 (eVar 8) (eVar 9) (eCall bMin2 (eAs (e2 dIx (e2 dIx (eVar 6) (eVar 8)) (eVar 9)) (eAs (eCall bMax2 (eAs (e2 dIx (e2 dIx (eVar 6) (eVar 8)) (eVar 7)) (eAs (e2 dIx (e2 dIx (eVar 6) (eVar 7)) (eVar 9)) eAs0))) eAs0))))
def b__law_distances_4 : FS := (sFor (iOf rg1 (eAs (eVar 1) eAs0)) (gN 9) b__law_distances_3)
def b__law_distances_5 : FS := (sFor (iOf rg1 (eAs (eVar 1) eAs0)) (gN 8) b__law_distances_4)
def c__law_distances_6 : FE := (eLc (iSeq (eVar 6)) [10] (gN 10) bYes (eCall bTup (eAs (eVar 10) eAs0)))
def g__law_distances : FS := (sSeq (sSet 2 (eFn (fun ds => if ds.length = 2 then F__law_take ds else M.no) (eAs (eVar 0) (eAs (eC (.int 5)) eAs0))))
  (sSeq (sIf (bOf (e2 dEq (eVar 2) (eC (.int 0)))) (sSeq (sTl (eFn (fun ds => if ds.length = 4 then F__law_tree ds else M.no) (eAs (eVar 0) (eAs (eVar 1) (eAs (eC (.int 3)) (eAs (eC (.int 5)) eAs0))))) 2 (gsC (gN 3) (gsC (gN 4) gs0)))
  (sSeq (sSetA 5 (eFn (fun ds => if ds.length = 2 then F__law_along ds else M.no) (eAs (eVar 3) (eAs (eVar 4) eAs0))))
  (sRet (eCall bTup (eAs c__law_distances_1 eAs0))))) sNil)
  (sSeq (sIf (bOf (e2 dEq (eVar 2) (eC (.int 1)))) (sSeq (sOwn 6 c__law_distances_2)
  (sSeq (sFor (iOf rg1 (eAs (eVar 1) eAs0)) (gN 7) b__law_distances_5)
  (sRet (eCall bTup (eAs c__law_distances_6 eAs0))))) sNil)
  (sRet (eFn (fun ds => if ds.length = 1 then F__law_short ds else M.no) (eAs (eFn (fun ds => if ds.length = 3 then F__law_table ds else M.no) (eAs (eVar 0) (eAs (eVar 1) (eAs (eFn (fun ds => if ds.length = 2 then F__law_pick ds else M.no) (eAs (eVar 0) (eAs (eLst (eAs (eC (.int 1)) (eAs (eC (.int 2)) (eAs (eC (.int 4)) (eAs (eC (.int 9)) (eAs (eC (.int 30)) eAs0)))))) eAs0))) eAs0)))) eAs0))))))
def F__law_distances : List D → M D := run 11 g__law_distances
theorem R__law_distances {a0 a1 d : D} {s s1 : Src} (h : Yl (g__law_distances [.rd a0, .rd a1, .no, .no, .no, .no, .no, .no, .no, .no, .no] s) (.rt d) s1) : Yl (F__law_distances [a0, a1] s) d s1 := run_rt h
theorem N__law_distances {a0 a1 : D} {δ : Ev} {s s1 : Src} (h : Yl (g__law_distances [.rd a0, .rd a1, .no, .no, .no, .no, .no, .no, .no, .no, .no] s) (.nx δ) s1) : Yl (F__law_distances [a0, a1] s) .non s1 := run_nx h
/-! _law_frac -/
def b__law_frac_1 : FS := (sPar 2 3 (eAs (eVar 3) (eAs (e2 dMod (eCall bInt (eAs (eVar 2) eAs0)) (eVar 3)) eAs0)))
def t__law_frac_2 : Ev → M Bool := (bOf (e2 dGt (eVar 3) (eC (.int 0))))
def g__law_frac : FS := (sSeq (sSet 2 (eCall bAbs (eAs (eVar 0) eAs0)))
  (sSeq (sSet 3 (eCall bAbs (eAs (eVar 1) eAs0)))
  (sSeq (wLp t__law_frac_2 b__law_frac_1 1000000)
  (sSeq (sSet 2 (eCall bMax2 (eAs (eC (.int 1)) (eAs (eVar 2) eAs0))))
  (sRet (eIf (bOf (e2 dGt (eVar 1) (eC (.int 0)))) (eTup (eAs (e2 dDiv (eVar 0) (eVar 2)) (eAs (e2 dDiv (eVar 1) (eVar 2)) eAs0))) (eTup (eAs (e2 dSub (eC (.int 0)) (e2 dDiv (eVar 0) (eVar 2))) (eAs (e2 dSub (eC (.int 0)) (e2 dDiv (eVar 1) (eVar 2))) eAs0)))))))))
def F__law_frac : List D → M D := run 4 g__law_frac
theorem R__law_frac {a0 a1 d : D} {s s1 : Src} (h : Yl (g__law_frac [.rd a0, .rd a1, .no, .no] s) (.rt d) s1) : Yl (F__law_frac [a0, a1] s) d s1 := run_rt h
theorem N__law_frac {a0 a1 : D} {δ : Ev} {s s1 : Src} (h : Yl (g__law_frac [.rd a0, .rd a1, .no, .no] s) (.nx δ) s1) : Yl (F__law_frac [a0, a1] s) .non s1 := run_nx h
/-! _law_sum_frac -/
def b__law_sum_frac_1 : FS := (sSet 1 (eFn (fun ds => if ds.length = 2 then F__law_frac ds else M.no) (eAs (e2 dAdd (e2 dMul (e2 dIx (eVar 1) (eC (.int 0))) (eVar 3)) (e2 dMul (eVar 2) (e2 dIx (eVar 1) (eC (.int 1))))) (eAs (e2 dMul (e2 dIx (eVar 1) (eC (.int 1))) (eVar 3)) eAs0))))
def g__law_sum_frac : FS := (sSeq (sSet 1 (eTup (eAs (eC (.int 0)) (eAs (eC (.int 1)) eAs0))))
  (sSeq (sForN (iSeq (eVar 0)) (gT 2 (gsC (gN 2) (gsC (gN 3) gs0))) b__law_sum_frac_1)
  (sRet (eVar 1))))
def F__law_sum_frac : List D → M D := run 4 g__law_sum_frac
theorem R__law_sum_frac {a0 d : D} {s s1 : Src} (h : Yl (g__law_sum_frac [.rd a0, .no, .no, .no] s) (.rt d) s1) : Yl (F__law_sum_frac [a0] s) d s1 := run_rt h
theorem N__law_sum_frac {a0 : D} {δ : Ev} {s s1 : Src} (h : Yl (g__law_sum_frac [.rd a0, .no, .no, .no] s) (.nx δ) s1) : Yl (F__law_sum_frac [a0] s) .non s1 := run_nx h
end PF
set_option Elab.async false
set_option linter.all false
set_option maxRecDepth 100000
set_option maxHeartbeats 400000
/-! FA: tables, pairs, distances. -/
namespace PF
open PySem PySem.Spec PyProof.Rows L2 DL
abbrev rF (n : Nat) (f : Nat → Int) : D := vT n fun i => .int (f i)
abbrev tF (n : Nat) (t : Nat → Nat → Int) : D := vT n fun i => vT n fun j => .int (t i j)
/-- a table of numbers from 0 to 1000, 0 in the middle, even -/
structure Tab (n : Nat) (t : Nat → Nat → Int) : Prop where
  n1 : 1 ≤ n
  n8 : n ≤ 8
  lo : ∀ i j, i < n → j < n → 0 ≤ t i j
  hi : ∀ i j, i < n → j < n → t i j ≤ 1000
  dg : ∀ i, i < n → t i i = 0
  sy : ∀ i j, i < n → j < n → t i j = t j i
/-- a table of distances -/
structure Dist (n : Nat) (t : Nat → Nat → Int) : Prop extends Tab n t where
  ps : ∀ i j, i < n → j < n → i ≠ j → 0 < t i j
  tr : ∀ i j k, i < n → j < n → k < n → t i j ≤ t i k + t k j
@[simp] theorem isint (i : Int) (s : Src) : F_is_integer [.int i] s = some (.bl true, s) := R_is_integer (by unfold g_is_integer; simp)
section
variable {n : Nat} {t : Nat → Nat → Int} {s : Src}
theorem chkT (h : Tab n t) : F_check_table [tF n t] s = some (.non, s) := by
  have n1 := h.n1
  have n8 := h.n8
  have e : Yx (g_check_table [.rd (tF n t), .no, .no, .no, .no] s) fun _ s' => s' = s := by
    unfold g_check_table
    refine .seq (.pass (by simp [show (1 : Int) ≤ n by omega, show (n : Int) ≤ 8 by omega])) (.thenX (P := fun δ s' => ∃ A B C E : Sl, δ = [.rd (tF n t), A, B, C, E] ∧ s' = s) ?_ ?_)
    · refine Yl.for_ (n := n) (f := fun i => rF n (t i)) (fun _ δ s' => ∃ A B C E : Sl, δ = [.rd (tF n t), A, B, C, E] ∧ s' = s) (s1 := s) (by simp) ⟨_, _, _, _, rfl, rfl⟩ ?_
      rintro i δ s' hi ⟨A, B, C, E, rfl, rfl⟩
      refine ⟨by simp, _, rfl, ?_⟩
      unfold b_check_table_2
      refine .mk (.seq (.pass (by simp)) (.pass (.bTr (.call (.as1 ?_) (any_no_F n)) rfl))) ⟨_, _, _, _, rfl, rfl⟩
      unfold c_check_table_1
      refine .lc (s1 := s') (f := fun j => .int (t i j)) (by simp) (by omega) fun j hj => ⟨_, rfl, rfl, ?_⟩
      have := h.lo i j hi hj
      have := h.hi i j hi hj
      simp [*]
    · rintro δ s' ⟨A, B, C, E, rfl, rfl⟩
      refine .imp (Yl.for_ (n := n) (f := fun i => .tup [.int (i : Nat), rF n (t i)]) (fun _ δ s => ∃ A B C E : Sl, δ = [.rd (tF n t), A, B, C, E] ∧ s = s') (s1 := s') (by simp) ⟨_, _, _, _, rfl, rfl⟩ ?_) fun δ s ⟨_, _, _, _, _, e⟩ => e
      rintro i δ s hi ⟨A, B, C, E, rfl, rfl⟩
      refine ⟨by simp, _, rfl, ?_⟩
      unfold b_check_table_4
      refine .mk (.pass (.or0 (s1 := s) (by simp (disch := omega) [h.dg i hi]) (.bTr (.call (.as1 ?_) (any_no_F i)) rfl))) ⟨_, _, _, _, rfl, rfl⟩
      unfold c_check_table_3
      refine .lc (s1 := s) (f := fun j => .int (j : Nat)) (by simp (disch := omega)) (by omega) fun j hj => ⟨_, rfl, rfl, ?_⟩
      simp (disch := omega) [h.sy i j hi (by omega)]
  obtain ⟨δ, s', e, rfl⟩ := e
  exact N_check_table e
/-! pairs -/
def prs (n : Nat) : List (Nat × Nat) := (List.range n).flatMap fun i => (List.range (n - (i + 1))).map fun k => (i, i + 1 + k)
def enP (p : Nat × Nat) : D := .tup [.int p.1, .int p.2]
theorem mem_prs {n : Nat} {p : Nat × Nat} : p ∈ prs n ↔ p.1 < p.2 ∧ p.2 < n := by
  unfold prs
  rw [List.mem_flatMap]
  constructor
  · rintro ⟨i, hi, h⟩
    obtain ⟨k, hk, rfl⟩ := List.mem_map.mp h
    have := List.mem_range.mp hi
    have := List.mem_range.mp hk
    exact ⟨by show i < i + 1 + k; omega, by show i + 1 + k < n; omega⟩
  · rintro ⟨h1, h2⟩
    exact ⟨p.1, List.mem_range.mpr (by omega), List.mem_map.mpr ⟨p.2 - (p.1 + 1), List.mem_range.mpr (by omega), Prod.ext rfl (by show p.1 + 1 + (p.2 - (p.1 + 1)) = p.2; omega)⟩⟩
theorem prs_len (n : Nat) : (prs n).length ≤ n * n := by
  unfold prs
  rw [List.length_flatMap]
  have : ∀ m, ((List.range m).map fun i => ((List.range (n - (i + 1))).map fun k => (i, i + 1 + k)).length).sum ≤ m * n := fun m => by
    induction m with
    | zero => simp
    | succ m ih =>
      rw [List.range_succ, List.map_append, List.sum_append, Nat.succ_mul]
      simp only [List.map_cons, List.map_nil, List.sum_cons, List.sum_nil, List.length_map, List.length_range] at *
      omega
  exact this n
theorem choi (h : n ≤ 30) : F_choices [.int (n : Nat), .int 2] s = some (.lst ((prs n).map enP), s) := by
  have c0 : ∀ a r e : Sl, Yl (c_choices_1 [.rd (.int (n : Nat)), .rd (.int 2), .ow (.lst [.tup []]), a, r, e] s) (vL n fun j => .tup [.int (j : Nat)]) s := fun a r e => by
    unfold c_choices_1
    refine lc2_eq (s1 := s) (ds := [.tup []]) (by simp) (by simp) ?_
    have hm := cLp2_map (vs := [4, 5]) (g := gN 4) (tt := bYes) (inn := inLc (iOf rg2 (eAs (eIf (bTr (eVar 4)) (e2 dAdd (e2 dIx (eVar 4) (e1 dNeg (eC (.int 1)))) (eC (.int 1))) (eC (.int 0))) (eAs (eVar 0) eAs0))) [5] (gN 5) bYes (eLf (e2 dAdd (eVar 4) (eTup (eAs (eVar 5) eAs0)))))
      (δ := [.rd (.int (n : Nat)), .rd (.int 2), .ow (.lst [.tup []]), a, r, e]) (s := s) (α := Unit) (fun _ => .tup []) (fun _ => seqF n fun j => .tup [.int (j : Nat)]) [()] fun _ _ => ⟨_, rfl, rfl, by
      refine inLc_eq (s1 := s) (ds := seqF n fun i => .int (i : Nat)) (by simp (disch := omega)) (by rw [seqF_len]; omega) ?_
      exact cLp_map (fun i : Nat => D.int i) (fun k => .tup [.int (k : Nat)]) (List.range n) fun k _ => ⟨_, rfl, rfl, by simp⟩⟩
    have e : [()].flatMap (fun _ => seqF n fun j => D.tup [.int (j : Nat)]) = seqF n fun j => D.tup [.int (j : Nat)] := by simp
    rw [e] at hm
    exact hm
  have c1 : ∀ a r e : Sl, Yl (c_choices_1 [.rd (.int (n : Nat)), .rd (.int 2), .ow (vL n fun j => .tup [.int (j : Nat)]), a, r, e] s) (.lst ((prs n).map enP)) s := fun a r e => by
    unfold c_choices_1
    refine lc2_eq (s1 := s) (ds := seqF n fun j => .tup [.int (j : Nat)]) (by simp) (by rw [seqF_len]; omega) ?_
    have hm := cLp2_map (vs := [4, 5]) (g := gN 4) (tt := bYes) (inn := inLc (iOf rg2 (eAs (eIf (bTr (eVar 4)) (e2 dAdd (e2 dIx (eVar 4) (e1 dNeg (eC (.int 1)))) (eC (.int 1))) (eC (.int 0))) (eAs (eVar 0) eAs0))) [5] (gN 5) bYes (eLf (e2 dAdd (eVar 4) (eTup (eAs (eVar 5) eAs0)))))
      (δ := [.rd (.int (n : Nat)), .rd (.int 2), .ow (vL n fun j => .tup [.int (j : Nat)]), a, r, e]) (s := s) (α := Nat) (fun j => .tup [.int (j : Nat)]) (fun i => ((List.range (n - (i + 1))).map fun k => (i, i + 1 + k)).map enP) (List.range n) fun i hi => ⟨_, rfl, rfl, by
      have hi := List.mem_range.mp hi
      have e5 : rg2 [.int ((i : Int) + 1), .int (n : Nat)] = some ((List.range (n - (i + 1))).map fun k => .int ((i + 1 + k : Nat) : Int)) := rg2_n (i := i + 1) (by omega) (by omega)
      refine inLc_eq (s1 := s) (ds := (List.range (n - (i + 1))).map fun k => .int ((i + 1 + k : Nat) : Int)) (by simp [e5]) (by simp; omega) ?_
      rw [cLp_map (α := Nat) (fun k => .int ((i + 1 + k : Nat) : Int)) (fun k => enP (i, i + 1 + k)) (List.range (n - (i + 1))) fun k _ => ⟨_, rfl, rfl, by simp [enP]⟩, List.map_map]
      rfl⟩
    rw [prs, List.map_flatMap]
    exact hm
  refine R_choices ?_
  unfold g_choices
  refine .seq (.own (d := .lst [.tup []]) (by simp)) ?_
  have e2 : rg1 [.int 2] = some [.int 0, .int 1] := rg1_n (n := 2) (by omega)
  refine .seq (δ1 := [.rd (.int (n : Nat)), .rd (.int 2), .ow (.lst ((prs n).map enP)), .rd (.int 1), .no, .no]) (s1 := s) ?_ (.ret (by simp))
  have d0 := fun a r e => (c0 a r e).eq
  have d1 := fun a r e => (c1 a r e).eq
  simp [e2, fLp, b_choices_2, d0, d1]
/-! distances -/
theorem okDist : PyData.strOk "distances" = true := by decide +kernel
theorem dpap (h : Dist n t) : F_distance_paper [tF n t] s = some (.tup [.str "distances"], s) := by
  have n1 := h.n1
  have n8 := h.n8
  have ec := choi (n := n) (s := s) (by omega)
  refine R_distance_paper ?_
  unfold g_distance_paper
  refine .seq (.exp (d := .non) (by simp [chkT h.toTab])) (.then_ (P := fun δ s' => ∃ A B C : Sl, δ = [.rd (tF n t), A, B, C] ∧ noOw [A, B, C] = true ∧ s' = s) ?_ ?_)
  · refine Yl.forNK (l := prs n) (f := enP) (s1 := s) _ (by simp [ec]) rfl ⟨_, _, _, rfl, rfl, rfl⟩ ?_
    rintro p δ s' hp ⟨A, B, C, rfl, hv, rfl⟩
    obtain ⟨h1, h2⟩ := mem_prs.mp hp
    have := h.ps p.1 p.2 (by omega) h2 (by omega)
    refine ⟨by simp [enP], _, rfl, .mk (δ := [.rd (tF n t), .rd (.int (p.1 : Nat)), .rd (.int (p.2 : Nat)), C]) (s := s') ?_ ⟨_, _, _, rfl, ?_, rfl⟩⟩
    · unfold b_distance_paper_1
      exact .pass (by simp (disch := omega); omega)
    · simp [noOw] at hv ⊢
      exact hv.2.2
  · rintro δ s' ⟨A, B, C, rfl, hv, rfl⟩
    refine .then_ (P := fun δ s => ∃ A B C : Sl, δ = [.rd (tF n t), A, B, C] ∧ s = s') ?_ fun δ s ⟨A, B, C, e, es⟩ => by subst e es; exact .ret (by simp)
    refine Yl.forNK (l := prs n) (f := enP) (s1 := s') _ (by simp [ec]) (by simpa [noOw] using hv) ⟨_, _, _, rfl, rfl⟩ ?_
    rintro p δ s hp ⟨A, B, C, rfl, rfl⟩
    obtain ⟨h1, h2⟩ := mem_prs.mp hp
    refine ⟨by simp [enP], _, rfl, ?_⟩
    unfold b_distance_paper_3
    refine .imp (Yl.for_ (n := n) (f := fun k => .int (k : Nat)) (s1 := s) (fun _ δ s' => ∃ C : Sl, δ = [.rd (tF n t), .rd (.int (p.1 : Nat)), .rd (.int (p.2 : Nat)), C] ∧ s' = s) (by simp (disch := omega)) ⟨_, rfl, rfl⟩ ?_) fun δ s' ⟨C, e, es⟩ => ⟨_, _, _, e, es⟩
    rintro k δ s' hk ⟨C, rfl, rfl⟩
    have := h.tr p.1 p.2 k (by omega) h2 hk
    refine ⟨rfl, _, rfl, ?_⟩
    unfold b_distance_paper_2
    exact .mk (.pass (by simp (disch := omega); omega)) ⟨_, rfl, rfl⟩
theorem chkD (h : Dist n t) : F_check_distances [tF n t] s = some (.non, s) := by
  refine N_check_distances (δ := [.rd (tF n t)]) ?_
  unfold g_check_distances
  exact .pass (by simp [dpap h, ne_s1_self okDist])
end
end PF
set_option Elab.async false
set_option linter.all false
set_option maxRecDepth 100000
set_option maxHeartbeats 400000
/-! FT: trees, made point by point (plain). -/
namespace PF
abbrev Edge := Nat × Nat × Int
def EE (es : List Edge) (x y : Nat) (l : Int) : Prop := (x, y, l) ∈ es ∨ (y, x, l) ∈ es
theorem EE.symm {es : List Edge} {x y : Nat} {l : Int} (h : EE es x y l) : EE es y x l := Or.symm h
structure Tre (V : Nat → Prop) (es : List Edge) (m : Nat) (top : Int) (d : Nat → Nat → Int) (h : Nat → Nat → Nat) : Prop where
  ei : ∀ x y l, EE es x y l → V x ∧ V y ∧ 1 ≤ l ∧ l ≤ top ∧ x ≠ y
  d0 : ∀ x, V x → d x x = 0
  sy : ∀ x y, V x → V y → d x y = d y x
  ps : ∀ x y, V x → V y → x ≠ y → 0 < d x y
  tr : ∀ x y z, V x → V y → V z → d x y ≤ d x z + d z y
  ed : ∀ i x y l, V i → EE es x y l → d i x = d i y + l ∨ d i y = d i x + l
  un : ∀ i x c l c' l', V i → EE es x c l → EE es x c' l' → d i x = d i c + l → d i x = d i c' + l' → c = c'
  nx : ∀ i x, V i → V x → x ≠ i → ∃ c l, EE es x c l ∧ d i x = d i c + l ∧ h i x = h i c + 1
  h0 : ∀ i, V i → h i i = 0
  hb : ∀ i x, V i → V x → h i x ≤ m
  db : ∀ i x, V i → V x → d i x ≤ top * h i x
theorem Tre.one (v : Nat) (top : Int) : Tre (fun x => x = v) [] 0 top (fun _ _ => 0) (fun _ _ => 0) := ⟨fun x y l e => by simp [EE] at e, fun _ _ => rfl, fun _ _ _ _ => rfl, fun x y h1 h2 h3 => absurd (h1.trans h2.symm) h3, fun _ _ _ _ _ _ => by omega, fun i x y l _ e => by simp [EE] at e, fun i x c l c' l' _ e => by simp [EE] at e, fun i x h1 h2 h3 => absurd (h2.trans h1.symm) h3, fun _ _ => rfl, fun _ _ _ _ => Nat.le_refl _, fun _ _ _ _ => by simp⟩
def addD (d : Nat → Nat → Int) (a v : Nat) (l : Int) : Nat → Nat → Int := fun x y => if x = v then (if y = v then 0 else d a y + l) else if y = v then d x a + l else d x y
def addH (h : Nat → Nat → Nat) (a v : Nat) : Nat → Nat → Nat := fun x y => if x = v then (if y = v then 0 else h a y + 1) else if y = v then h x a + 1 else h x y
section
variable {V : Nat → Prop} {es : List Edge} {m : Nat} {top : Int} {d : Nat → Nat → Int} {h : Nat → Nat → Nat} {a v : Nat} {l : Int}
theorem addD_vv : addD d a v l v v = 0 := by simp [addD]
theorem addD_v {y : Nat} (hy : y ≠ v) : addD d a v l v y = d a y + l := by simp [addD, hy]
theorem addD_w {x : Nat} (hx : x ≠ v) : addD d a v l x v = d x a + l := by simp [addD, hx]
theorem addD_o {x y : Nat} (hx : x ≠ v) (hy : y ≠ v) : addD d a v l x y = d x y := by simp [addD, hx, hy]
theorem addH_vv : addH h a v v v = 0 := by simp [addH]
theorem addH_v {y : Nat} (hy : y ≠ v) : addH h a v v y = h a y + 1 := by simp [addH, hy]
theorem addH_w {x : Nat} (hx : x ≠ v) : addH h a v x v = h x a + 1 := by simp [addH, hx]
theorem addH_o {x y : Nat} (hx : x ≠ v) (hy : y ≠ v) : addH h a v x y = h x y := by simp [addH, hx, hy]
theorem EE_add {lo hi : Nat} (hlh : (lo = a ∧ hi = v) ∨ (lo = v ∧ hi = a)) {x y : Nat} {k : Int} : EE (es ++ [(lo, hi, l)]) x y k ↔ EE es x y k ∨ (k = l ∧ ((x = a ∧ y = v) ∨ (x = v ∧ y = a))) := by
  unfold EE
  simp only [List.mem_append, List.mem_singleton, Prod.mk.injEq]
  rcases hlh with ⟨rfl, rfl⟩ | ⟨rfl, rfl⟩
  · constructor
    · rintro ((e | ⟨rfl, rfl, rfl⟩) | (e | ⟨rfl, rfl, rfl⟩))
      · exact .inl (.inl e)
      · exact .inr ⟨rfl, .inl ⟨rfl, rfl⟩⟩
      · exact .inl (.inr e)
      · exact .inr ⟨rfl, .inr ⟨rfl, rfl⟩⟩
    · rintro ((e | e) | ⟨rfl, (⟨rfl, rfl⟩ | ⟨rfl, rfl⟩)⟩)
      · exact .inl (.inl e)
      · exact .inr (.inl e)
      · exact .inl (.inr ⟨rfl, rfl, rfl⟩)
      · exact .inr (.inr ⟨rfl, rfl, rfl⟩)
  · constructor
    · rintro ((e | ⟨rfl, rfl, rfl⟩) | (e | ⟨rfl, rfl, rfl⟩))
      · exact .inl (.inl e)
      · exact .inr ⟨rfl, .inr ⟨rfl, rfl⟩⟩
      · exact .inl (.inr e)
      · exact .inr ⟨rfl, .inl ⟨rfl, rfl⟩⟩
    · rintro ((e | e) | ⟨rfl, (⟨rfl, rfl⟩ | ⟨rfl, rfl⟩)⟩)
      · exact .inl (.inl e)
      · exact .inr (.inl e)
      · exact .inr (.inr ⟨rfl, rfl, rfl⟩)
      · exact .inl (.inr ⟨rfl, rfl, rfl⟩)
theorem Tre.nn (T : Tre V es m top d h) {x y : Nat} (hx : V x) (hy : V y) : 0 ≤ d x y := by
  by_cases e : x = y
  · subst e; rw [T.d0 x hx]; exact Int.le_refl _
  · have := T.ps x y hx hy e; omega
theorem Tre.add (T : Tre V es m top d h) (ha : V a) (hv : ¬ V v) (hl : 1 ≤ l) (hl2 : l ≤ top) {lo hi : Nat} (hlh : (lo = a ∧ hi = v) ∨ (lo = v ∧ hi = a)) :
    Tre (fun x => V x ∨ x = v) (es ++ [(lo, hi, l)]) (m + 1) top (addD d a v l) (addH h a v) := by
  have nv : ∀ x, V x → x ≠ v := fun x hx e => hv (e ▸ hx)
  have hav := nv a ha
  have ev : ∀ x y k, EE es x y k → x ≠ v ∧ y ≠ v := fun x y k e => ⟨nv x (T.ei x y k e).1, nv y (T.ei x y k e).2.1⟩
  refine ⟨fun x y k e => ?_, fun x hx => ?_, fun x y hx hy => ?_, fun x y hx hy hxy => ?_, fun x y z hx hy hz => ?_, fun i x y k hi' e => ?_, fun i x c k c' k' hi' e e' q q' => ?_, fun i x hi' hx hxi => ?_, fun i hi' => ?_, fun i x hi' hx => ?_, fun i x hi' hx => ?_⟩
  · rcases (EE_add hlh).mp e with e | ⟨rfl, (⟨rfl, rfl⟩ | ⟨rfl, rfl⟩)⟩
    · obtain ⟨p, q, r⟩ := T.ei x y k e
      exact ⟨.inl p, .inl q, r⟩
    · exact ⟨.inl ha, .inr rfl, hl, hl2, hav⟩
    · exact ⟨.inr rfl, .inl ha, hl, hl2, Ne.symm hav⟩
  · rcases hx with hx | rfl
    · rw [addD_o (nv x hx) (nv x hx), T.d0 x hx]
    · exact addD_vv
  · rcases hx with hx | rfl <;> rcases hy with hy | rfl
    · rw [addD_o (nv x hx) (nv y hy), addD_o (nv y hy) (nv x hx), T.sy x y hx hy]
    · rw [addD_w (nv x hx), addD_v (nv x hx), T.sy x a hx ha]
    · rw [addD_w (nv y hy), addD_v (nv y hy), T.sy y a hy ha]
    · rfl
  · rcases hx with hx | rfl <;> rcases hy with hy | rfl
    · rw [addD_o (nv x hx) (nv y hy)]; exact T.ps x y hx hy hxy
    · rw [addD_w (nv x hx)]; have := T.nn hx ha; omega
    · rw [addD_v (nv y hy)]; have := T.nn ha hy; omega
    · exact absurd rfl hxy
  · rcases hx with hx | rfl <;> rcases hy with hy | rfl <;> rcases hz with hz | rfl
    · rw [addD_o (nv x hx) (nv y hy), addD_o (nv x hx) (nv z hz), addD_o (nv z hz) (nv y hy)]; exact T.tr x y z hx hy hz
    · rw [addD_o (nv x hx) (nv y hy), addD_w (nv x hx), addD_v (nv y hy)]
      have := T.tr x y a hx hy ha; omega
    · rw [addD_w (nv x hx), addD_o (nv x hx) (nv z hz), addD_w (nv z hz)]
      have := T.tr x a z hx ha hz; omega
    · rw [addD_w (nv x hx), addD_vv]; omega
    · rw [addD_v (nv y hy), addD_v (nv z hz), addD_o (nv z hz) (nv y hy)]
      have := T.tr a y z ha hy hz; omega
    · rw [addD_v (nv y hy), addD_vv]; omega
    · rw [addD_vv, addD_v (nv z hz), addD_w (nv z hz)]
      have := T.nn ha hz
      have := T.nn hz ha
      omega
    · rw [addD_vv]; omega
  · rcases (EE_add hlh).mp e with e | ⟨rfl, (⟨rfl, rfl⟩ | ⟨rfl, rfl⟩)⟩
    · obtain ⟨p, q⟩ := ev x y k e
      rcases hi' with hi' | rfl
      · rw [addD_o (nv i hi') p, addD_o (nv i hi') q]; exact T.ed i x y k hi' e
      · rw [addD_v p, addD_v q]
        have := T.ed a x y k ha e
        omega
    · rcases hi' with hi' | rfl
      · rw [addD_o (nv i hi') hav, addD_w (nv i hi')]; exact .inr rfl
      · rw [addD_v hav, addD_vv, T.d0 x ha]; exact .inl (by omega)
    · rcases hi' with hi' | rfl
      · rw [addD_o (nv i hi') hav, addD_w (nv i hi')]; exact .inl rfl
      · rw [addD_v hav, addD_vv, T.d0 y ha]; exact .inr (by omega)
  · rcases (EE_add hlh).mp e with e1 | ⟨rfl, (⟨rfl, rfl⟩ | ⟨rfl, rfl⟩)⟩ <;> rcases (EE_add hlh).mp e' with e2 | ⟨rfl, (⟨h1, rfl⟩ | ⟨h1, rfl⟩)⟩
    · obtain ⟨p1, p2⟩ := ev x c k e1
      obtain ⟨_, p3⟩ := ev x c' k' e2
      rcases hi' with hi' | rfl
      · rw [addD_o (nv i hi') p1, addD_o (nv i hi') p2] at q
        rw [addD_o (nv i hi') p1, addD_o (nv i hi') p3] at q'
        exact T.un i x c k c' k' hi' e1 e2 q q'
      · rw [addD_v p1, addD_v p2] at q
        rw [addD_v p1, addD_v p3] at q'
        exact T.un a x c k c' k' ha e1 e2 (by omega) (by omega)
    · obtain ⟨p1, p2⟩ := ev x c k e1
      subst h1
      rcases hi' with hi' | rfl
      · rw [addD_o (nv i hi') p1, addD_w (nv i hi')] at q'
        omega
      · rw [addD_v p1, addD_v p2, T.d0 x ha] at q
        have := T.nn ha (T.ei x c k e1).2.1
        have := (T.ei x c k e1).2.2.1
        omega
    · exact absurd h1 (ev x c k e1).1
    · obtain ⟨p1, p2⟩ := ev x c' k' e2
      rcases hi' with hi' | rfl
      · rw [addD_o (nv i hi') p1, addD_w (nv i hi')] at q
        omega
      · rw [addD_v p1, addD_v p2, T.d0 x ha] at q'
        have := T.nn ha (T.ei x c' k' e2).2.1
        have := (T.ei x c' k' e2).2.2.1
        omega
    · rfl
    · exact absurd h1 hav
    · exact absurd rfl (ev x c' k' e2).1
    · exact absurd h1.symm hav
    · rfl
  · rcases hi' with hi' | rfl <;> rcases hx with hx | rfl
    · obtain ⟨c, k, e, q1, q2⟩ := T.nx i x hi' hx hxi
      obtain ⟨_, p2⟩ := ev x c k e
      refine ⟨c, k, (EE_add hlh).mpr (.inl e), ?_, ?_⟩
      · rw [addD_o (nv i hi') (nv x hx), addD_o (nv i hi') p2]; exact q1
      · rw [addH_o (nv i hi') (nv x hx), addH_o (nv i hi') p2]; exact q2
    · refine ⟨a, l, (EE_add hlh).mpr (.inr ⟨rfl, .inr ⟨rfl, rfl⟩⟩), ?_, ?_⟩
      · rw [addD_w (nv i hi'), addD_o (nv i hi') hav]
      · rw [addH_w (nv i hi'), addH_o (nv i hi') hav]
    · by_cases hxa : x = a
      · subst hxa
        refine ⟨i, l, (EE_add hlh).mpr (.inr ⟨rfl, .inl ⟨rfl, rfl⟩⟩), ?_, ?_⟩
        · rw [addD_v hav, addD_vv, T.d0 x ha]
        · rw [addH_v hav, addH_vv, T.h0 x ha]
      · obtain ⟨c, k, e, q1, q2⟩ := T.nx a x ha hx hxa
        obtain ⟨_, p2⟩ := ev x c k e
        refine ⟨c, k, (EE_add hlh).mpr (.inl e), ?_, ?_⟩
        · rw [addD_v (nv x hx), addD_v p2]; omega
        · rw [addH_v (nv x hx), addH_v p2]; omega
    · exact absurd rfl hxi
  · rcases hi' with hi' | rfl
    · rw [addH_o (nv i hi') (nv i hi'), T.h0 i hi']
    · exact addH_vv
  · rcases hi' with hi' | rfl <;> rcases hx with hx | rfl
    · rw [addH_o (nv i hi') (nv x hx)]; have := T.hb i x hi' hx; omega
    · rw [addH_w (nv i hi')]; have := T.hb i a hi' ha; omega
    · rw [addH_v (nv x hx)]; have := T.hb a x ha hx; omega
    · rw [addH_vv]; omega
  · rcases hi' with hi' | rfl <;> rcases hx with hx | rfl
    · rw [addD_o (nv i hi') (nv x hx), addH_o (nv i hi') (nv x hx)]; exact T.db i x hi' hx
    · rw [addD_w (nv i hi'), addH_w (nv i hi')]
      have := T.db i a hi' ha
      rw [Int.natCast_add, Int.mul_add]
      omega
    · rw [addD_v (nv x hx), addH_v (nv x hx)]
      have := T.db a x ha hx
      rw [Int.natCast_add, Int.mul_add]
      omega
    · rw [addD_vv, addH_vv]; simp
end
/-! ### finding the lengths by steps -/
/-- what is found so far from i -/
structure Fnd (V : Nat → Prop) (es : List Edge) (d : Nat → Nat → Int) (i : Nat) (f : Nat → Option Int) : Prop where
  ok : ∀ x k, V x → f x = some k → k = d i x
  self : f i = some 0
  cl : ∀ x c l, V x → EE es x c l → d i x = d i c + l → f x ≠ none → f c ≠ none
section
variable {V : Nat → Prop} {es : List Edge} {m : Nat} {top : Int} {d : Nat → Nat → Int} {h : Nat → Nat → Nat} {i : Nat} {f : Nat → Option Int}
def upF (f : Nat → Option Int) (b : Nat) (k : Int) : Nat → Option Int := fun x => if x = b then some k else f x
theorem Fnd.start (T : Tre V es m top d h) (hi : V i) : Fnd V es d i (fun x => if i = x then some 0 else none) := by
  refine ⟨fun x k hx e => ?_, if_pos rfl, fun x c l hx e q hf => ?_⟩
  · by_cases w : i = x
    · subst w
      rw [if_pos rfl] at e
      cases e
      exact (T.d0 i hi).symm
    · rw [if_neg w] at e; cases e
  · by_cases w : i = x
    · subst w
      rw [T.d0 i hi] at q
      have := T.nn hi (T.ei i c l e).2.1
      have := (T.ei i c l e).2.2.1
      omega
    · exact absurd (if_neg w) hf
theorem Fnd.put (T : Tre V es m top d h) (hi : V i) (F : Fnd V es d i f) {a b : Nat} {l ka : Int} (e : EE es a b l) (fa : f a = some ka) (fb : f b = none) : Fnd V es d i (upF f b (ka + l)) ∧ ka + l = d i b := by
  obtain ⟨Va, Vb, hl, _, hab⟩ := T.ei a b l e
  have eka := F.ok a ka Va fa
  have q : d i b = d i a + l := by
    rcases T.ed i a b l hi e with q | q
    · exact absurd fb (F.cl a b l Va e q (by rw [fa]; exact fun z => nomatch z))
    · exact q
  refine ⟨⟨fun x k hx ex => ?_, ?_, fun x c k hx ex q2 hf => ?_⟩, by omega⟩
  · unfold upF at ex
    split at ex
    · rename_i w
      subst w
      cases ex
      omega
    · exact F.ok x k hx ex
  · unfold upF
    split
    · rename_i w
      subst w
      rw [F.self] at fb; cases fb
    · exact F.self
  · unfold upF at hf ⊢
    by_cases hc : c = b
    · rw [if_pos hc]; exact fun z => nomatch z
    · rw [if_neg hc]
      by_cases hx2 : x = b
      · subst hx2
        have := T.un i x a l c k hi e.symm ex q q2
        subst this
        rw [fa]; exact fun z => nomatch z
      · rw [if_neg hx2] at hf
        exact F.cl x c k hx ex q2 hf
/-- one edge's turn -/
def halfF (f : Nat → Option Int) (a b : Nat) (l : Int) : Nat → Option Int := match f a, f b with
  | some k, none => upF f b (k + l)
  | _, _ => f
theorem halfF_mono (f : Nat → Option Int) (a b : Nat) (l : Int) (x : Nat) (hf : f x ≠ none) : halfF f a b l x ≠ none := by
  unfold halfF
  cases ha : f a with
  | none => exact hf
  | some k =>
    cases hb : f b with
    | none =>
      show upF f b (k + l) x ≠ none
      unfold upF
      by_cases e : x = b
      · rw [if_pos e]; exact fun z => nomatch z
      · rw [if_neg e]; exact hf
    | some y => exact hf
theorem halfF_ok (T : Tre V es m top d h) (hi : V i) (F : Fnd V es d i f) {a b : Nat} {l : Int} (he : EE es a b l) : Fnd V es d i (halfF f a b l) := by
  unfold halfF
  split
  · rename_i k e1 e2
    exact (F.put T hi he e1 e2).1
  · exact F
theorem halfF_found (f : Nat → Option Int) {a b : Nat} {l : Int} (ha : f a ≠ none) : halfF f a b l b ≠ none := by
  obtain ⟨k, hk⟩ := Option.ne_none_iff_exists'.mp ha
  unfold halfF
  rw [hk]
  cases hb : f b with
  | none =>
    show upF f b (k + l) b ≠ none
    unfold upF
    rw [if_pos rfl]; exact fun z => nomatch z
  | some y =>
    show f b ≠ none
    rw [hb]; exact fun z => nomatch z
def stepF (f : Nat → Option Int) (e : Edge) : Nat → Option Int := halfF (halfF f e.1 e.2.1 e.2.2) e.2.1 e.1 e.2.2
theorem stepF_mono (f : Nat → Option Int) (e : Edge) (x : Nat) (hf : f x ≠ none) : stepF f e x ≠ none := halfF_mono _ _ _ _ _ (halfF_mono _ _ _ _ _ hf)
theorem stepF_ok (T : Tre V es m top d h) (hi : V i) (F : Fnd V es d i f) {e : Edge} (he : e ∈ es) : Fnd V es d i (stepF f e) := halfF_ok T hi (halfF_ok T hi F (.inl he)) (.inr he)
theorem stepF_found (f : Nat → Option Int) {e : Edge} : (f e.1 ≠ none → stepF f e e.2.1 ≠ none) ∧ (f e.2.1 ≠ none → stepF f e e.1 ≠ none) :=
  ⟨fun hf => halfF_mono _ _ _ _ _ (halfF_found f hf), fun hf => halfF_found _ (halfF_mono _ _ _ _ _ hf)⟩
def turnF (es : List Edge) (f : Nat → Option Int) : Nat → Option Int := es.foldl stepF f
theorem turnF_mono (x : Nat) : ∀ (l : List Edge) (f : Nat → Option Int), f x ≠ none → turnF l f x ≠ none
  | [], _, h => h
  | e :: l, f, h => turnF_mono x l (stepF f e) (stepF_mono f e x h)
theorem turnF_ok (T : Tre V es m top d h) (hi : V i) : ∀ (l : List Edge) (f : Nat → Option Int), (∀ e ∈ l, e ∈ es) → Fnd V es d i f → Fnd V es d i (turnF l f)
  | [], _, _, F => F
  | e :: l, f, hl, F => turnF_ok T hi l (stepF f e) (fun x hx => hl x (List.mem_cons_of_mem _ hx)) (stepF_ok T hi F (hl e List.mem_cons_self))
theorem turnF_found {x c : Nat} {k : Int} : ∀ (l : List Edge) (f : Nat → Option Int), EE l x c k → f c ≠ none → turnF l f x ≠ none
  | [], _, h, _ => by simp [EE] at h
  | e :: l, f, h, hc => by
    show turnF l (stepF f e) x ≠ none
    by_cases hl : EE l x c k
    · exact turnF_found l _ hl (stepF_mono f e c hc)
    · have : e = (x, c, k) ∨ e = (c, x, k) := by
        rcases h with h | h
        · rcases List.mem_cons.mp h with h | h
          · exact .inl h.symm
          · exact absurd (.inl h) hl
        · rcases List.mem_cons.mp h with h | h
          · exact .inr h.symm
          · exact absurd (.inr h) hl
      refine turnF_mono x l _ ?_
      rcases this with rfl | rfl
      · exact (stepF_found f (e := (x, c, k))).2 hc
      · exact (stepF_found f (e := (c, x, k))).1 hc
def turnsF (es : List Edge) : Nat → (Nat → Option Int) → Nat → Option Int
  | 0, f => f
  | t + 1, f => turnF es (turnsF es t f)
theorem turnsF_ok (T : Tre V es m top d h) (hi : V i) (F : Fnd V es d i f) : ∀ t, Fnd V es d i (turnsF es t f)
  | 0 => F
  | t + 1 => turnF_ok T hi es _ (fun _ h => h) (turnsF_ok T hi F t)
theorem turnsF_found (T : Tre V es m top d h) (hi : V i) (F : Fnd V es d i f) : ∀ (t x : Nat), V x → h i x ≤ t → turnsF es t f x ≠ none
  | t, x, hx, ht => by
    by_cases e : x = i
    · subst e
      have := (turnsF_ok T hi F t).self
      rw [this]; exact fun z => nomatch z
    · obtain ⟨c, l, ee, _, q⟩ := T.nx i x hi hx e
      cases t with
      | zero => omega
      | succ t => exact turnF_found es _ ee (turnsF_found T hi F t c (T.ei x c l ee).2.1 (by omega))
theorem turnsF_all (T : Tre V es m top d h) (hi : V i) (F : Fnd V es d i f) {t : Nat} (ht : m ≤ t) {x : Nat} (hx : V x) : turnsF es t f x = some (d i x) := by
  have h1 := turnsF_found T hi F t x hx (Nat.le_trans (T.hb i x hi hx) ht)
  obtain ⟨k, hk⟩ := Option.ne_none_iff_exists'.mp h1
  rw [hk, (turnsF_ok T hi F t).ok x k hx hk]
/-- the order of the edges does not matter -/
theorem Tre.perm (T : Tre V es m top d h) {es' : List Edge} (p : es'.Perm es) : Tre V es' m top d h := by
  have e : ∀ x y l, EE es' x y l ↔ EE es x y l := fun x y l => by
    unfold EE
    rw [p.mem_iff, p.mem_iff]
  exact ⟨fun x y l k => T.ei x y l ((e x y l).mp k), T.d0, T.sy, T.ps, T.tr, fun i x y l hi k => T.ed i x y l hi ((e x y l).mp k), fun i x c l c' l' hi k k' => T.un i x c l c' l' hi ((e _ _ _).mp k) ((e _ _ _).mp k'), fun i x hi hx hxi => by
    obtain ⟨c, l, k, q⟩ := T.nx i x hi hx hxi
    exact ⟨c, l, (e _ _ _).mpr k, q⟩, T.h0, T.hb, T.db⟩
end
end PF
set_option Elab.async false
set_option linter.all false
set_option maxRecDepth 100000
set_option maxHeartbeats 400000
/-! FB: what the laws draw: orders, trees, tables, distances. -/
namespace PF
open PySem PySem.Spec PyProof.Rows L2 DL
theorem ixN_nat2 {n j : Nat} (h : j < n) : ixN n (j : Int) = some j := by
  unfold ixN
  rw [if_pos (by omega), if_pos (by omega), Int.toNat_natCast]
theorem seqF_set {n a : Nat} {f : Nat → D} {v : D} (h : a < n) : (seqF n f).set a v = seqF n fun i => if i = a then v else f i := seqF_ext (by rw [List.length_set, seqF_len]) fun i hi => by
  by_cases e : i = a
  · subst e
    rw [List.getElem?_set_self (by rw [seqF_len]; exact hi), if_pos rfl]
  · rw [List.getElem?_set_ne (fun z => e z.symm), seqF_get hi, if_neg e]
theorem _root_.DL.Yl.sub2 {i : Nat} {fk fl f : FE} {δ : Ev} {s s1 : Src} {n m : Nat} {q : Nat → Nat → D} {a b : Nat} {v : D} (hd : δ[i]? = some (.ow (vL n fun i => vL m (q i)))) (ha : a < n) (hb : b < m) (hq : ∀ i j, (q i j).lf = true) (hv : v.lf = true)
    (hf : Yl (f δ s) v s1) (hk : Yl (fk δ s1) (.int (a : Nat)) s1) (hl : Yl (fl δ s1) (.int (b : Nat)) s1) :
    Yl (sSub2 i fk fl f δ s) (.nx (δ.set i (.ow (vL n fun i => vL m fun j => if i = a ∧ j = b then v else q i j)))) s1 := by
  unfold Yl at *
  unfold sSub2
  rw [bd_ap, hf, Option.bind_some, bd_ap, hk, Option.bind_some, bd_ap, hl, Option.bind_some, hd]
  show M.of ((ixN (seqF n fun i => vL m (q i)).length (a : Int)).bind _) s1 = _
  rw [seqF_len, ixN_nat2 ha, Option.bind_some, seqF_get ha]
  show M.of (if v.lf = true ∧ lfs (seqF m (q a)) = true then _ else _) s1 = _
  rw [if_pos ⟨hv, lfs_seqF (hq a)⟩, seqF_len, ixN_nat2 hb, Option.map_some, of_some, seqF_set hb, seqF_set ha]
  congr 6
  refine seqF_congr fun i hi => ?_
  by_cases e : i = a
  · subst e
    rw [if_pos rfl]
    refine vL_congr fun j _ => ?_
    by_cases e2 : j = b
    · rw [if_pos e2, if_pos ⟨rfl, e2⟩]
    · rw [if_neg e2, if_neg (fun z => e2 z.2)]
  · rw [if_neg e]
    exact vL_congr fun j _ => (if_neg (fun z => e z.1)).symm
theorem _root_.DL.Yl.app {i : Nat} {f : FE} {δ : Ev} {s s1 : Src} {ds : List D} {v : D} (hd : δ[i]? = some (.ow (.lst ds))) (hl : ds.length < 1000000) (hf : Yl (f δ s) v s1) (hv : v.lf = true) : Yl (sApp i f δ s) (.nx (δ.set i (.ow (.lst (ds ++ [v]))))) s1 := by
  unfold Yl at *
  rw [sApp_ap hd, hf, Option.bind_some, if_pos ⟨hv, hl⟩]
/-- a draw -/
theorem draw {fd fm : FE} {δ : Ev} {s : Src} {m : Nat} (hd : Yl (fd δ s) .src s) (hm : Yl (fm δ s) (.int (m : Nat)) s) (h0 : 0 < m) (h1 : m ≤ 1000000) : ∃ k : Nat, k < m ∧ Yl ((eFn (fun ds => if ds.length = 2 then F__law_take ds else M.no) (eAs fd (eAs fm eAs0))) δ s) (.int (k : Nat)) (take s (m : Nat)).2 := by
  have lo := take_lo s (m := (m : Nat)) (by omega)
  have up := take_hi s (m := (m : Nat)) (by omega)
  have dr := draw_eq (s := s) (m := (m : Nat)) ⟨by omega, by omega⟩
  obtain ⟨k, hk⟩ : ∃ k : Nat, (take s (m : Nat)).1 = k := ⟨_, (Int.toNat_of_nonneg lo).symm⟩
  rw [hk] at dr lo up
  exact ⟨k, by omega, .fn (.as_ hd (.as_ hm .as0)) dr⟩
theorem take_nat (s : Src) {m : Nat} (h0 : 0 < m) (h1 : m ≤ 1000000) : ∃ k : Nat, k < m ∧ F__law_take [.src, .int (m : Nat)] s = some (.int (k : Nat), (take s (m : Nat)).2) := by
  have lo := take_lo s (m := (m : Nat)) (by omega)
  have up := take_hi s (m := (m : Nat)) (by omega)
  have dr := draw_eq (s := s) (m := (m : Nat)) ⟨by omega, by omega⟩
  obtain ⟨k, hk⟩ : ∃ k : Nat, (take s (m : Nat)).1 = k := ⟨_, (Int.toNat_of_nonneg lo).symm⟩
  rw [hk] at dr lo up
  exact ⟨k, by omega, dr⟩
/-! orders -/
theorem erase_perm {α : Type} : ∀ {l : List α} {i : Nat} (h : i < l.length), (l[i] :: l.eraseIdx i).Perm l
  | [], _, h => by simp at h
  | a :: l, 0, h => List.Perm.refl _
  | a :: l, i + 1, h => by
    have := erase_perm (l := l) (i := i) (by simpa using h)
    rw [List.getElem_cons_succ, List.eraseIdx_cons_succ]
    exact (List.Perm.swap _ _ _).trans (List.Perm.cons _ this)
theorem nodup_inj {α : Type} {l : List α} (h : l.Nodup) {i j : Nat} {x : α} (hi : l[i]? = some x) (hj : l[j]? = some x) : i = j := by
  obtain ⟨h1, e1⟩ := List.getElem?_eq_some_iff.mp hi
  obtain ⟨h2, e2⟩ := List.getElem?_eq_some_iff.mp hj
  have p := List.pairwise_iff_getElem.mp h
  rcases Nat.lt_trichotomy i j with c | c | c
  · exact absurd (e1.trans e2.symm) (p i j h1 h2 c)
  · exact c
  · exact absurd (e2.trans e1.symm) (p j i h2 h1 c)
theorem shufD_ok : ∀ (k : Nat) (rest : List Int) (s : Src), rest.length = k → k ≤ 1000 → ∃ all s', shufD k rest s = some (all, s') ∧ all.Perm rest
  | 0, rest, s, h, _ => ⟨[], s, rfl, by rw [List.length_eq_zero_iff.mp h]⟩
  | k + 1, rest, s, h, hk => by
    have lo := take_lo s (m := (rest.length : Nat)) (by omega)
    have up := take_hi s (m := (rest.length : Nat)) (by omega)
    have hi : (take s (rest.length : Nat)).1.toNat < rest.length := by omega
    obtain ⟨all, s', e, p⟩ := shufD_ok k (rest.eraseIdx (take s (rest.length : Nat)).1.toNat) (take s (rest.length : Nat)).2 (by rw [List.length_eraseIdx_of_lt hi]; omega) (by omega)
    refine ⟨rest[(take s (rest.length : Nat)).1.toNat] :: all, s', ?_, ?_⟩
    · rw [shufD, if_pos ⟨by omega, by omega⟩, List.getElem?_eq_getElem hi, Option.bind_some, e]; rfl
    · exact (List.Perm.cons _ p).trans (erase_perm hi)
theorem shuf (n : Nat) (hn : n ≤ 1000) (s : Src) : ∃ (p : Nat → Nat) (s' : Src), F__law_shuffled [.src, .int (n : Nat)] s = some (vT n fun k => .int (p k : Nat), s') ∧ (∀ k, k < n → p k < n) ∧ (∀ j k, j < n → k < n → p j = p k → j = k) ∧ ∀ x, x < n → ∃ k, k < n ∧ p k = x := by
  obtain ⟨all, s', e, hp⟩ := shufD_ok n ((List.range n).map fun i : Nat => (i : Int)) s (by simp) hn
  have hl : all.length = n := by rw [hp.length_eq]; simp
  have hm : ∀ x, x ∈ all ↔ ∃ i : Nat, i < n ∧ (i : Int) = x := fun x => by rw [hp.mem_iff]; simp
  have nd : all.Nodup := hp.nodup_iff.mpr (by
    refine List.pairwise_map.mpr (List.Pairwise.imp (fun {a b : Nat} (h : a < b) (z : (a : Int) = (b : Int)) => by omega) List.pairwise_lt_range))
  have ep : ∀ k, k < n → ∃ i : Nat, i < n ∧ all[k]? = some (i : Int) := fun k hk => by
    have h1 : all[k]? = some all[k] := List.getElem?_eq_getElem (by omega)
    obtain ⟨i, hi, e⟩ := (hm _).mp (List.mem_of_getElem? h1)
    exact ⟨i, hi, by rw [h1, e]⟩
  have eq : ∀ k, k < n → all[k]? = some (((all[k]?).getD 0).toNat : Int) := fun k hk => by
    obtain ⟨i, _, e⟩ := ep k hk
    rw [e]; rfl
  refine ⟨fun k => ((all[k]?).getD 0).toNat, s', ?_, fun k hk => ?_, fun j k hj hk q => ?_, fun x hx => ?_⟩
  · refine R__law_shuffled ?_
    unfold g__law_shuffled
    have en : rngD 0 n = ((List.range n).map fun i : Nat => (i : Int)).map D.int := by
      rw [rngD_map, List.map_map]
      exact List.map_congr_left fun i _ => by show D.int (0 + (i : Int)) = D.int i; rw [Int.zero_add]
    refine .seq (.own (d := .lst (((List.range n).map fun i : Nat => (i : Int)).map D.int)) ?_) ?_
    · show eLstR1 (eVar 1) _ s = _
      unfold eLstR1
      rw [e1_ap]
      show Option.bind (some (D.int (n : Int), s)) _ = _
      rw [Option.bind_some]
      show M.of (if 0 ≤ (n : Int) ∧ (n : Int).natAbs ≤ 1000000 then some (D.lst (rngD 0 (n : Int).toNat)) else none) s = _
      rw [if_pos (by omega), Int.toNat_natCast, en]; rfl
    · show Option.bind (some ((n : Int), ((List.range n).map fun i : Nat => (i : Int)).map D.int)) (fun p => shufR p.1 p.2 s) = _
      rw [Option.bind_some]
      unfold shufR
      rw [if_pos (by simp; omega), intL_ints, Option.bind_some, Int.toNat_natCast, e, Option.map_some]
      congr 3
      refine congrArg D.tup (seqF_ext (by rw [List.length_map, hl]) fun i hi => ?_)
      rw [List.getElem?_map, eq i hi]; rfl
  · obtain ⟨i, hi, e⟩ := ep k hk
    show ((all[k]?).getD 0).toNat < n
    rw [e]; exact hi
  · obtain ⟨i, hi, e1⟩ := ep j hj
    obtain ⟨i', hi', e2⟩ := ep k hk
    have q : ((all[j]?).getD 0).toNat = ((all[k]?).getD 0).toNat := q
    rw [e1, e2] at q
    have q : i = i' := by simpa using q
    subst q
    exact nodup_inj nd e1 e2
  · have : ((x : Nat) : Int) ∈ all := (hm _).mpr ⟨x, hx, rfl⟩
    obtain ⟨k, hk, e⟩ := List.getElem_of_mem this
    refine ⟨k, by omega, ?_⟩
    show ((all[k]?).getD 0).toNat = x
    rw [List.getElem?_eq_getElem hk, e]; rfl
theorem pick_F {n : Nat} {f : Nat → D} (m : D) (hm : m = vT n f ∨ m = vL n f) (h0 : 0 < n) (h1 : n ≤ 1000000) (s : Src) : ∃ i s', i < n ∧ F__law_pick [.src, m] s = some (f i, s') := by
  obtain ⟨k, hk, e⟩ := take_nat s h0 h1
  refine ⟨k, (take s (n : Nat)).2, hk, R__law_pick (.ret ?_)⟩
  rcases hm with rfl | rfl
  · simp (disch := omega) [e]
  · simp (disch := omega) [e]
end PF
set_option Elab.async false
set_option linter.all false
set_option maxRecDepth 100000
set_option maxHeartbeats 400000
/-! FC: drawn trees and lengths along them. -/
namespace PF
open PySem PySem.Spec PyProof.Rows L2 DL
theorem Tre.congr {V V' : Nat → Prop} {es : List Edge} {m : Nat} {top : Int} {d : Nat → Nat → Int} {h : Nat → Nat → Nat} (T : Tre V es m top d h) (e : ∀ x, V x ↔ V' x) : Tre V' es m top d h := by
  have : V = V' := funext fun x => propext (e x)
  exact this ▸ T
def enR (x : List Int) : D := .tup (x.map .int)
def enE (e : Edge) : D := .tup [.int (e.1 : Nat), .int (e.2.1 : Nat), .int e.2.2]
def rowE (e : Edge) : List Int := [(e.1 : Nat), (e.2.1 : Nat), e.2.2]
theorem enE_row (e : Edge) : enE e = enR (rowE e) := rfl
@[simp] theorem lf_enE (e : Edge) : (enE e).lf = true := by simp [enE]
@[simp] theorem lf_enR (e : List Int) : (enR e).lf = true := by simp [enR]
theorem sorted_R {L : List (List Int)} (hl : L.length < 64) (h : L = [] ∨ okT L = true) : bSorted [.lst (L.map enR)] = some (.lst ((sortL L).map enR)) := by
  show (if (L.map enR).length < 64 then (match intL (L.map enR) with
    | some ns => some (D.lst ((sortI ns).map .int))
    | none => (tupsL (L.map enR)).bind fun L => if okT L = true then some (.lst ((sortL L).map enR)) else none) else none) = _
  rw [List.length_map, if_pos hl]
  cases L with
  | nil =>
    show some (D.lst ((sortI []).map .int)) = _
    unfold sortI sortL
    simp
  | cons a L =>
    have e : intL ((a :: L).map enR) = none := rfl
    rw [e]
    have e2 := tupsL_map (a :: L)
    show (tupsL ((a :: L).map enR)).bind _ = _
    have e3 : tupsL ((a :: L).map enR) = some (a :: L) := e2
    rw [e3, Option.bind_some, if_pos (h.resolve_left (fun z => nomatch z))]
theorem okT_of {L : List (List Int)} {d : Nat} (hd : 1 ≤ d) (hn : L ≠ []) (h : ∀ x ∈ L, x.length = d ∧ ∀ i ∈ x, 0 ≤ i ∧ i < 1000000) : okT L = true := by
  cases L with
  | nil => exact absurd rfl hn
  | cons a L =>
    unfold okT
    simp only [Bool.and_eq_true, decide_eq_true_eq, List.all_eq_true]
    have ha := (h a List.mem_cons_self).1
    exact ⟨by omega, fun x hx => ⟨by rw [(h x hx).1, ha], fun i hi => (h x hx).2 i hi⟩⟩
theorem perm_unmap {α β : Type} {f : α → β} (g : β → α) (hg : ∀ a, g (f a) = a) {l : List α} {l' : List β} (h : l'.Perm (l.map f)) : ∃ k : List α, k.Perm l ∧ k.map f = l' := by
  refine ⟨l'.map g, ?_, ?_⟩
  · have := h.map g
    rw [List.map_map] at this
    have e : (g ∘ f) = id := funext hg
    rw [e, List.map_id] at this
    exact this
  · rw [List.map_map]
    have : ∀ x ∈ l', (f ∘ g) x = x := fun x hx => by
      obtain ⟨a, _, rfl⟩ := List.mem_map.mp (h.mem_iff.mp hx)
      show f (g (f a)) = f a
      rw [hg]
    rw [List.map_congr_left this, List.map_id']
theorem tree {n more : Nat} {top : Nat} (h1 : 1 ≤ n) (hm : n + more ≤ 60) (ht : 1 ≤ top) (ht2 : top ≤ 1000) (s : Src) : ∃ (J : Nat) (es : List Edge) (d : Nat → Nat → Int) (h : Nat → Nat → Nat) (s' : Src),
    F__law_tree [.src, .int (n : Nat), .int (more : Nat), .int (top : Nat)] s = some (.lst [.int (J : Nat), .tup (es.map enE)], s') ∧ n ≤ J ∧ J ≤ n + more ∧ es.length + 1 = J ∧ (∀ e ∈ es, e.1 < e.2.1) ∧ (es.map rowE).Pairwise (fun a b => lexLe a b = true) ∧ Tre (fun x => x < J) es (J - 1) (top : Nat) d h := by
  obtain ⟨j0, hj0, e0⟩ := take_nat s (m := more + 1) (by omega) (by omega)
  have e0 : F__law_take [.src, .int ((more : Int) + 1)] s = some (.int (j0 : Nat), (take s (more + 1 : Nat)).2) := e0
  generalize (take s (more + 1 : Nat)).2 = s1 at e0
  obtain ⟨p, s2, e1, hp, inj, sur⟩ := shuf (n + j0) (by omega) s1
  have e1 : F__law_shuffled [.src, .int ((n : Int) + (j0 : Int))] s1 = some (vT (n + j0) fun k => .int (p k : Nat), s2) := e1
  have hr : rg2 [.int 1, .int ((n : Int) + (j0 : Int))] = some (seqF (n + j0 - 1) fun i => .int ((1 + i : Nat) : Int)) := rg2_1 (n := n + j0) (by omega)
  have lp : Yx (sFor (iOf rg2 (eAs (eC (.int 1)) (eAs (eVar 4) eAs0))) (gN 7) b__law_tree_1 [.rd .src, .rd (.int (n : Nat)), .rd (.int (more : Nat)), .rd (.int (top : Nat)), .rd (.int ((n : Int) + (j0 : Int))), .rd (vT (n + j0) fun k => .int (p k : Nat)), .ow (.lst []), .no, .no] s2)
      (fun δ s' => ∃ es d h A B, δ = [.rd .src, .rd (.int (n : Nat)), .rd (.int (more : Nat)), .rd (.int (top : Nat)), .rd (.int ((n : Int) + (j0 : Int))), .rd (vT (n + j0) fun k => .int (p k : Nat)), .ow (.lst (es.map enE)), A, B] ∧ es.length = n + j0 - 1 ∧ (∀ e ∈ es, e.1 < e.2.1) ∧ Tre (fun x => ∃ j, j ≤ n + j0 - 1 ∧ p j = x) es (n + j0 - 1) (top : Nat) d h) := by
    refine Yl.for_ (n := n + j0 - 1) (f := fun i => .int ((1 + i : Nat) : Int)) (s1 := s2) (fun i δ s' => ∃ es d h A B, δ = [.rd .src, .rd (.int (n : Nat)), .rd (.int (more : Nat)), .rd (.int (top : Nat)), .rd (.int ((n : Int) + (j0 : Int))), .rd (vT (n + j0) fun k => .int (p k : Nat)), .ow (.lst (es.map enE)), A, B] ∧ es.length = i ∧ (∀ e ∈ es, e.1 < e.2.1) ∧ Tre (fun x => ∃ j, j ≤ i ∧ p j = x) es i (top : Nat) d h)
      (by simp [hr]) ⟨[], fun _ _ => 0, fun _ _ => 0, .no, .no, rfl, rfl, (fun _ z => (nomatch z)), (Tre.one (p 0) (top : Nat)).congr fun x => ⟨fun e => ⟨0, Nat.le_refl _, e.symm⟩, fun ⟨j, hj, e⟩ => by rw [← e, Nat.le_zero.mp hj]⟩⟩ ?_
    rintro i δ s' hi ⟨es, d, h, A, B, rfl, hes, hlt, T⟩
    obtain ⟨a, ha, ea⟩ := take_nat s' (m := 1 + i) (by omega) (by omega)
    generalize hs3 : (take s' (1 + i : Nat)).2 = s3 at ea
    obtain ⟨l, hl, el⟩ := take_nat s3 (m := top) (by omega) (by omega)
    generalize (take s3 (top : Nat)).2 = s4 at el
    have ne : p a ≠ p (1 + i) := fun z => by have := inj a (1 + i) (by omega) (by omega) z; omega
    have ix : ∀ k, k < n + j0 → dIx (vT (n + j0) fun k => .int (p k : Nat)) (.int (k : Nat)) = some (.int (p k : Nat)) := fun k hk => vT_ix hk
    have ixi : dIx (vT (n + j0) fun k => .int (p k : Nat)) (.int (1 + (i : Int))) = some (.int (p (1 + i) : Nat)) := ix (1 + i) (by omega)
    have ixa := ix a (by omega)
    refine ⟨rfl, _, rfl, ?_⟩
    unfold b__law_tree_1
    refine .seq (δ1 := [.rd .src, .rd (.int (n : Nat)), .rd (.int (more : Nat)), .rd (.int (top : Nat)), .rd (.int ((n : Int) + (j0 : Int))), .rd (vT (n + j0) fun k => .int (p k : Nat)), .ow (.lst (es.map enE)), .rd (.int ((1 + i : Nat) : Int)), .rd (.int (p a : Nat))]) (s1 := s3) ?_
      (.mk (δ := [.rd .src, .rd (.int (n : Nat)), .rd (.int (more : Nat)), .rd (.int (top : Nat)), .rd (.int ((n : Int) + (j0 : Int))), .rd (vT (n + j0) fun k => .int (p k : Nat)), .ow (.lst ((es ++ [(min (p a) (p (1 + i)), max (p a) (p (1 + i)), 1 + (l : Int))]).map enE)), .rd (.int ((1 + i : Nat) : Int)), .rd (.int (p a : Nat))]) (s := s4) ?_
        ⟨es ++ [(min (p a) (p (1 + i)), max (p a) (p (1 + i)), 1 + (l : Int))], addD d (p a) (p (1 + i)) (1 + (l : Int)), addH h (p a) (p (1 + i)), _, _, rfl, by rw [List.length_append, hes]; rfl, fun e he => ?_, ?_⟩)
    · refine Yl.setS (i := 8) (d := .int (p a : Nat)) (Yl.e2 (a := vT (n + j0) fun k => .int (p k : Nat)) (s1 := s') (b := .int (a : Nat)) (by simp) (.fn (ds := [.src, .int ((1 + i : Nat) : Int)]) (s1 := s') (by simp) ea) ixa) rfl
    · have := Yl.app (i := 6) (f := eTup (eAs (eCall bMin2 (eAs (eVar 8) (eAs (e2 dIx (eVar 5) (eVar 7)) eAs0))) (eAs (eCall bMax2 (eAs (eVar 8) (eAs (e2 dIx (eVar 5) (eVar 7)) eAs0))) (eAs (e2 dAdd (eC (.int 1)) (eFn (fun ds => if ds.length = 2 then F__law_take ds else M.no) (eAs (eVar 0) (eAs (eVar 3) eAs0)))) eAs0))))
        (δ := [.rd .src, .rd (.int (n : Nat)), .rd (.int (more : Nat)), .rd (.int (top : Nat)), .rd (.int ((n : Int) + (j0 : Int))), .rd (vT (n + j0) fun k => .int (p k : Nat)), .ow (.lst (es.map enE)), .rd (.int ((1 + i : Nat) : Int)), .rd (.int (p a : Nat))]) (s := s3) (s1 := s4) (v := enE (min (p a) (p (1 + i)), max (p a) (p (1 + i)), 1 + (l : Int))) rfl (by rw [List.length_map]; omega) ?_ (lf_enE _)
      · rw [List.map_append]; exact this
      · refine Yl.tup (ds := [.int ((min (p a) (p (1 + i)) : Nat) : Int), .int ((max (p a) (p (1 + i)) : Nat) : Int), .int (1 + (l : Int))]) (.as_ (s1 := s3) ?_ (.as_ (s1 := s3) ?_ (.as1 ?_))) (by simp)
        · simp [ixi, -ix_int]; omega
        · simp [ixi, -ix_int]; omega
        · simp [el]
    · rcases List.mem_append.mp he with he | he
      · exact hlt e he
      · have : e = (min (p a) (p (1 + i)), max (p a) (p (1 + i)), 1 + (l : Int)) := by simpa using he
        subst this
        show min (p a) (p (1 + i)) < max (p a) (p (1 + i))
        omega
    · refine (T.add (a := p a) (v := p (1 + i)) (l := 1 + (l : Int)) ⟨a, by omega, rfl⟩ (fun ⟨j, hj, e⟩ => ?_) (by omega) (by omega) ?_).congr fun x => ?_
      · have := inj j (1 + i) (by omega) (by omega) e
        omega
      · omega
      · constructor
        · rintro (⟨j, hj, e⟩ | e)
          · exact ⟨j, by omega, e⟩
          · exact ⟨1 + i, by omega, e.symm⟩
        · rintro ⟨j, hj, e⟩
          by_cases hji : j ≤ i
          · exact .inl ⟨j, hji, e⟩
          · have : j = 1 + i := by omega
            subst this
            exact .inr e.symm
  obtain ⟨δ', s5, e5, es, d, h, A, B, rfl, hes, hlt, T⟩ := lp
  have hV : ∀ x, (∃ j, j ≤ n + j0 - 1 ∧ p j = x) ↔ x < n + j0 := fun x => ⟨fun ⟨j, hj, e⟩ => e ▸ hp j (by omega), fun hx => by
    obtain ⟨k, hk, e⟩ := sur x hx
    exact ⟨k, by omega, e⟩⟩
  have T' := T.congr hV
  have hs := sorted_R (L := es.map rowE) (by rw [List.length_map]; omega) (by
    by_cases hn : es = []
    · exact .inl (by rw [hn]; rfl)
    · refine .inr (okT_of (d := 3) (by omega) (fun z => hn (by simpa using z)) fun x hx => ?_)
      obtain ⟨e, he, rfl⟩ := List.mem_map.mp hx
      obtain ⟨a1, a2, a3, a4, _⟩ := T'.ei e.1 e.2.1 e.2.2 (.inl he)
      refine ⟨rfl, fun i hi => ?_⟩
      simp [rowE] at hi
      rcases hi with rfl | rfl | rfl <;> omega)
  obtain ⟨es', hp', he'⟩ := perm_unmap (f := rowE) (fun x => ((x.getD 0 0).toNat, (x.getD 1 0).toNat, x.getD 2 0)) (fun e => by simp [rowE]) (sortL_perm (es.map rowE))
  refine ⟨n + j0, es', d, h, s5, ?_, by omega, by omega, by rw [hp'.length_eq, hes]; omega, fun e he => hlt e (hp'.mem_iff.mp he), by rw [he']; exact sortL_sorted _, T'.perm hp'⟩
  refine R__law_tree ?_
  unfold g__law_tree
  refine .seq (.setS (d := .int ((n : Int) + (j0 : Int))) (s1 := s1) ?_ rfl) (.seq (.setS (d := vT (n + j0) fun k => .int (p k : Nat)) (s1 := s2) ?_ (by simp)) (.seq (.own (d := .lst []) ?_) (.seq e5 (.ret ?_))))
  · simp [e0]
  · simp [e1]
  · simp
  · have hs2 : bSorted [.lst (es.map enE)] = some (.lst (es'.map enE)) := by
      rw [List.map_map] at hs
      have e2 : es'.map enE = (sortL (es.map rowE)).map enR := by rw [← he', List.map_map]; rfl
      rw [e2]
      exact hs
    simp [hs2]
end PF
set_option Elab.async false
set_option linter.all false
set_option maxRecDepth 100000
set_option maxHeartbeats 400000
/-! FD: lengths along trees, tables, distances. -/
namespace PF
open PySem PySem.Spec PyProof.Rows L2 DL
def oD : Option Int → D
  | none => .non
  | some k => .int k
@[simp] theorem lf_oD (o : Option Int) : (oD o).lf = true := by cases o <;> rfl
abbrev oM (n : Nat) (Q : Nat → Nat → Option Int) : D := vL n fun i => vL n fun j => oD (Q i j)
def upR (Q : Nat → Nat → Option Int) (i : Nat) (f : Nat → Option Int) : Nat → Nat → Option Int := fun a x => if a = i then f x else Q a x
theorem upR_same {Q : Nat → Nat → Option Int} {i : Nat} {f : Nat → Option Int} (x : Nat) : upR Q i f i x = f x := if_pos rfl
theorem half {fa fb : FE} {δ : Ev} {s : Src} {J i a b : Nat} {l : Int} {Q : Nat → Nat → Option Int} {f : Nat → Option Int} (hi : i < J) (ha : a < J) (hb : b < J) (h2 : δ[2]? = some (.ow (oM J (upR Q i f)))) (g3 : gt δ 3 = some (.int (i : Nat))) (g7 : gt δ 7 = some (.int l)) (ea : fa δ s = some (.int (a : Nat), s)) (eb : fb δ s = some (.int (b : Nat), s)) :
    Yl (sIf (bAnd (bOf (e2 dIsN (e2 dIx (e2 dIx (eVar 2) (eVar 3)) fa) (eC .non))) (bOf (e2 dIs (e2 dIx (e2 dIx (eVar 2) (eVar 3)) fb) (eC .non)))) (sSub2 2 (eVar 3) fb (e2 dAdd (e2 dIx (e2 dIx (eVar 2) (eVar 3)) fa) (eVar 7))) sNil δ s) (.nx (δ.set 2 (.ow (oM J (upR Q i (halfF f a b l)))))) s := by
  have g2 : gt δ 2 = some (oM J (upR Q i f)) := gt_ow h2
  have ia : (e2 dIx (e2 dIx (eVar 2) (eVar 3)) fa) δ s = some (oD (f a), s) := by
    simp (disch := omega) only [e2_ap, eVar_ap, g2, g3, of_some, Option.bind_some, vL_ix, ea]
    rw [upR_same]
  have ib : (e2 dIx (e2 dIx (eVar 2) (eVar 3)) fb) δ s = some (oD (f b), s) := by
    simp (disch := omega) only [e2_ap, eVar_ap, g2, g3, of_some, Option.bind_some, vL_ix, eb]
    rw [upR_same]
  have stay : halfF f a b l = f → Yl (sNil δ s) (.nx (δ.set 2 (.ow (oM J (upR Q i (halfF f a b l)))))) s := fun e => by
    rw [e]
    have : δ.set 2 (.ow (oM J (upR Q i f))) = δ := by
      refine List.ext_getElem? fun k => ?_
      by_cases hk : k = 2
      · subst hk
        rw [List.getElem?_set_self (List.getElem?_eq_some_iff.mp h2).1, h2]
      · rw [List.getElem?_set_ne (fun z => hk z.symm)]
    rw [this]; exact .nil
  cases ca : f a with
  | none =>
    rw [ca] at ia
    refine .ifF (.and0 (.bOf (.e2 ia rfl rfl))) (stay ?_)
    unfold halfF; rw [ca]
  | some k =>
    rw [ca] at ia
    cases cb : f b with
    | some y =>
      rw [cb] at ib
      refine .ifF (.and1 (.bOf (.e2 ia rfl rfl)) (.bOf (.e2 ib rfl rfl))) (stay ?_)
      unfold halfF; rw [ca, cb]
    | none =>
      rw [cb] at ib
      refine .ifT (.and1 (.bOf (.e2 ia rfl rfl)) (.bOf (.e2 ib rfl rfl))) ?_
      have := Yl.sub2 (i := 2) (fk := eVar 3) (fl := fb) (f := e2 dAdd (e2 dIx (e2 dIx (eVar 2) (eVar 3)) fa) (eVar 7)) (δ := δ) (s := s) (s1 := s) (v := .int (k + l)) (q := fun x j => oD (upR Q i f x j)) h2 hi hb (fun _ _ => lf_oD _) rfl (.e2 ia (by simp [g7]; rfl) rfl) (by simp [g3]) eb
      refine this.cast ?_
      congr 3
      refine vL_congr fun x _ => vL_congr fun y _ => ?_
      unfold halfF
      rw [ca, cb]
      show _ = oD (upR Q i (upF f b (k + l)) x y)
      unfold upR upF
      by_cases h1 : x = i
      · by_cases h3 : y = b
        · rw [if_pos ⟨h1, h3⟩, if_pos h1, if_pos h3]; rfl
        · rw [if_neg (fun z => h3 z.2), if_pos h1, if_pos h1, if_neg h3]
      · rw [if_neg (fun z => h1 z.1), if_neg h1, if_neg h1]
theorem along {J m : Nat} {es : List Edge} {top : Int} {d : Nat → Nat → Int} {h : Nat → Nat → Nat} (hJ : J ≤ 1000) (T : Tre (fun x => x < J) es m top d h) (hm : m ≤ J) (s : Src) : F__law_along [.int (J : Nat), .tup (es.map enE)] s = some (vL J fun i => vL J fun x => .int (d i x), s) := by
  have ein : ∀ e ∈ es, e.1 < J ∧ e.2.1 < J := fun e he => by
    obtain ⟨a, b, _⟩ := T.ei e.1 e.2.1 e.2.2 (.inl he)
    exact ⟨a, b⟩
  have lfe : lfs (es.map enE) = true := lfs_map lf_enE es
  -- one turn
  have t4 : ∀ (Q : Nat → Nat → Option Int) (i : Nat) (f : Nat → Option Int) (t A B C E : Sl), i < J → Yx (b__law_along_4 [.rd (.int (J : Nat)), .rd (.tup (es.map enE)), .ow (oM J (upR Q i f)), .rd (.int (i : Nat)), t, A, B, C, E] s) fun δ s' => s' = s ∧ ∃ A B C, δ = [.rd (.int (J : Nat)), .rd (.tup (es.map enE)), .ow (oM J (upR Q i (turnF es f))), .rd (.int (i : Nat)), t, A, B, C, E] := by
    intro Q i f t A B C E hi
    unfold b__law_along_4
    have key : ∀ (l : List Edge) (f : Nat → Option Int) (A B C : Sl), (∀ e ∈ l, e ∈ es) → ∃ A' B' C', fLp (gT 3 (gsC (gN 5) (gsC (gN 6) (gsC (gN 7) gs0)))) b__law_along_3 (l.map enE) [.rd (.int (J : Nat)), .rd (.tup (es.map enE)), .ow (oM J (upR Q i f)), .rd (.int (i : Nat)), t, A, B, C, E] s = some (.nx [.rd (.int (J : Nat)), .rd (.tup (es.map enE)), .ow (oM J (upR Q i (turnF l f))), .rd (.int (i : Nat)), t, A', B', C', E], s) := by
      intro l
      induction l with
      | nil => intro f A B C _; exact ⟨A, B, C, rfl⟩
      | cons e l ih =>
        intro f A B C hl
        obtain ⟨h1, h2⟩ := ein e (hl e List.mem_cons_self)
        obtain ⟨A', B', C', eq⟩ := ih (stepF f e) (.rd (.int (e.1 : Nat))) (.rd (.int (e.2.1 : Nat))) (.rd (.int e.2.2)) fun x hx => hl x (List.mem_cons_of_mem _ hx)
        refine ⟨A', B', C', ?_⟩
        have st : Yl (b__law_along_3 [.rd (.int (J : Nat)), .rd (.tup (es.map enE)), .ow (oM J (upR Q i f)), .rd (.int (i : Nat)), t, .rd (.int (e.1 : Nat)), .rd (.int (e.2.1 : Nat)), .rd (.int e.2.2), E] s) (.nx [.rd (.int (J : Nat)), .rd (.tup (es.map enE)), .ow (oM J (upR Q i (stepF f e))), .rd (.int (i : Nat)), t, .rd (.int (e.1 : Nat)), .rd (.int (e.2.1 : Nat)), .rd (.int e.2.2), E]) s := by
          unfold b__law_along_3
          exact .seq (half (a := e.1) (b := e.2.1) (l := e.2.2) hi h1 h2 rfl rfl rfl rfl rfl) (half (a := e.2.1) (b := e.1) (l := e.2.2) hi h2 h1 rfl rfl rfl rfl rfl)
        rw [List.map_cons, fLp]
        have el : (enE e).lf = true := lf_enE e
        have eg : (gT 3 (gsC (gN 5) (gsC (gN 6) (gsC (gN 7) gs0)))) (enE e) [.rd (.int (J : Nat)), .rd (.tup (es.map enE)), .ow (oM J (upR Q i f)), .rd (.int (i : Nat)), t, A, B, C, E] = some [.rd (.int (J : Nat)), .rd (.tup (es.map enE)), .ow (oM J (upR Q i f)), .rd (.int (i : Nat)), t, .rd (.int (e.1 : Nat)), .rd (.int (e.2.1 : Nat)), .rd (.int e.2.2), E] := rfl
        simp only [bd_ap, el, if_true, eg, of_some, Option.bind_some, st.eq]
        exact eq
    obtain ⟨A', B', C', e⟩ := key es f A B C fun _ h => h
    refine .mk (δ := [.rd (.int (J : Nat)), .rd (.tup (es.map enE)), .ow (oM J (upR Q i (turnF es f))), .rd (.int (i : Nat)), t, A', B', C', E]) (s := s) ?_ ⟨rfl, A', B', C', rfl⟩
    unfold Yl
    rw [sFor_ap, iSeqT_ap]
    show Option.bind (Option.bind (some (D.tup (es.map enE), s)) fun p => M.of (lfT p.1) p.2) _ = _
    rw [Option.bind_some, lfT_tup, if_pos lfe, of_some, Option.bind_some]
    exact e
  have rgJ : rg1 [.int (J : Nat)] = some (seqF J fun i => .int (i : Nat)) := rg1_F (by omega)
  let st0 : Nat → Nat → Option Int := fun i x => if i = x then some 0 else none
  let fin : Nat → Nat → Nat → Option Int := fun k i x => if i < k then turnsF es J (st0 i) x else st0 i x
  refine R__law_along ?_
  unfold g__law_along
  refine .seq (.own (d := oM J (fin 0)) ?_) (.then_ (P := fun δ s' => s' = s ∧ ∃ t u A B C E, δ = [.rd (.int (J : Nat)), .rd (.tup (es.map enE)), .ow (oM J (fin J)), t, u, A, B, C, E]) ?_ ?_)
  · unfold c__law_along_2
    refine .lc (s1 := s) (f := fun i => .int (i : Nat)) (by simp [rgJ]) (by omega) fun i hi => ⟨_, rfl, rfl, ?_⟩
    unfold c__law_along_1
    refine .lc (s1 := s) (f := fun i => .int (i : Nat)) (by simp [rgJ]) (by omega) fun j hj => ⟨_, rfl, rfl, ?_⟩
    have e0 : fin 0 i j = if i = j then some 0 else none := rfl
    rw [e0]
    by_cases e : i = j
    · simp [e, oD]
    · simp [e, oD, show ¬ (i : Int) = (j : Int) by omega]
  · refine Yl.for_ (n := J) (f := fun i => .int (i : Nat)) (s1 := s) (fun k δ s' => s' = s ∧ ∃ t u A B C E, δ = [.rd (.int (J : Nat)), .rd (.tup (es.map enE)), .ow (oM J (fin k)), t, u, A, B, C, E]) (by simp [rgJ]) ⟨rfl, _, _, _, _, _, _, rfl⟩ ?_
    rintro i δ s' hi ⟨rfl, t, u, A, B, C, E, rfl⟩
    refine ⟨rfl, _, rfl, ?_⟩
    unfold b__law_along_5
    have e1 : fin i = upR (fin i) i (turnsF es 0 (st0 i)) := by
      funext a x
      show fin i a x = if a = i then st0 i x else fin i a x
      by_cases e : a = i
      · subst e
        rw [if_pos rfl]
        show (if a < a then _ else st0 a x) = _
        rw [if_neg (Nat.lt_irrefl _)]
      · rw [if_neg e]
    rw [e1]
    refine .imp (Yl.for_ (n := J) (f := fun i => .int (i : Nat)) (s1 := s') (fun k δ s => s = s' ∧ ∃ u A B C E, δ = [.rd (.int (J : Nat)), .rd (.tup (es.map enE)), .ow (oM J (upR (fin i) i (turnsF es k (st0 i)))), .rd (.int (i : Nat)), u, A, B, C, E]) (by simp [rgJ]) ⟨rfl, _, _, _, _, _, rfl⟩ ?_) ?_
    · rintro k δ s hk ⟨rfl, u, A, B, C, E, rfl⟩
      refine ⟨rfl, _, rfl, .imp (t4 (fin i) i (turnsF es k (st0 i)) (.rd (.int (k : Nat))) A B C E hi) ?_⟩
      rintro δ s' ⟨rfl, A, B, C, rfl⟩
      exact ⟨rfl, _, A, B, C, E, rfl⟩
    · rintro δ s ⟨rfl, u, A, B, C, E, rfl⟩
      have e2 : upR (fin i) i (turnsF es J (st0 i)) = fin (i + 1) := by
        funext a x
        show (if a = i then turnsF es J (st0 i) x else if a < i then turnsF es J (st0 a) x else st0 a x) = if a < i + 1 then turnsF es J (st0 a) x else st0 a x
        by_cases e : a = i
        · subst e
          rw [if_pos rfl, if_pos (Nat.lt_succ_self _)]
        · rw [if_neg e]
          by_cases e3 : a < i
          · rw [if_pos e3, if_pos (by omega)]
          · rw [if_neg e3, if_neg (by omega)]
      rw [e2]
      exact ⟨rfl, _, u, A, B, C, E, rfl⟩
  · rintro δ s' ⟨rfl, t, u, A, B, C, E, rfl⟩
    refine .ret ?_
    simp only [eVar_ap, gt_succ, gt_zero, sl_ow, of_some, Yl_some]
    refine vL_congr fun i hi => vL_congr fun x hx => ?_
    show oD (if i < J then turnsF es J (st0 i) x else st0 i x) = .int (d i x)
    rw [if_pos hi, turnsF_all T hi (Fnd.start T hi) hm hx]; rfl
end PF
set_option Elab.async false
set_option linter.all false
set_option maxRecDepth 100000
set_option maxHeartbeats 400000
/-! FE0: lowering a table over middle points (plain). -/
namespace PF
def rl (op : Int → Int → Int) (q : Nat → Nat → Int) (k : Nat) : Nat → Nat → Int := fun i j => min (q i j) (op (q i k) (q k j))
def fl (op : Int → Int → Int) (q : Nat → Nat → Int) : Nat → Nat → Nat → Int
  | 0 => q
  | k + 1 => rl op (fl op q k) k
def part (op : Int → Int → Int) (q : Nat → Nat → Int) (k i j : Nat) : Nat → Nat → Int := fun a b => if a < i ∨ (a = i ∧ b < j) then rl op q k a b else q a b
/-- what the operation keeps -/
structure Op0 (op : Int → Int → Int) : Prop where
  l : ∀ x, 0 ≤ x → x ≤ op x 0
  r : ∀ x, 0 ≤ x → x ≤ op 0 x
  nn : ∀ x y, 0 ≤ x → 0 ≤ y → 0 ≤ op x y
  cm : ∀ x y, op x y = op y x
  ps : ∀ x y, 0 ≤ x → 0 ≤ y → 0 < x → 0 < op x y
  mono : ∀ x x' y y', x ≤ x' → y ≤ y' → op x y ≤ op x' y'
  as : ∀ x y z, op (op x y) z = op x (op y z)
theorem op_add : Op0 (· + ·) := ⟨fun x _ => by show x ≤ x + 0; omega, fun x _ => by show x ≤ 0 + x; omega, fun x y _ _ => by show 0 ≤ x + y; omega, fun x y => Int.add_comm x y, fun x y _ _ _ => by show 0 < x + y; omega, fun x x' y y' _ _ => by show x + y ≤ x' + y'; omega, fun x y z => by show x + y + z = x + (y + z); omega⟩
theorem op_max : Op0 (fun x y : Int => max x y) := ⟨fun x _ => by show x ≤ max x 0; omega, fun x _ => by show x ≤ max 0 x; omega, fun x y _ _ => by show 0 ≤ max x y; omega, fun x y => by show max x y = max y x; omega, fun x y _ _ _ => by show 0 < max x y; omega, fun x x' y y' _ _ => by show max x y ≤ max x' y'; omega, fun x y z => by show max (max x y) z = max x (max y z); omega⟩
/-- an even table, 0 in the middle, from 0 on -/
structure Ev0 (n : Nat) (q : Nat → Nat → Int) : Prop where
  dg : ∀ i, i < n → q i i = 0
  sy : ∀ i j, i < n → j < n → q i j = q j i
  nn : ∀ i j, i < n → j < n → 0 ≤ q i j
section
variable {op : Int → Int → Int} {n : Nat} {q : Nat → Nat → Int} {k i j : Nat}
theorem part_start : part op q k 0 0 = q := by
  funext a b
  unfold part
  rw [if_neg (by omega)]
theorem part_next {a b : Nat} (hb : b < n) : part op q k i n a b = part op q k (i + 1) 0 a b := by
  unfold part
  by_cases h : a < i ∨ (a = i ∧ b < n)
  · rw [if_pos h, if_pos (by omega)]
  · rw [if_neg h, if_neg (by omega)]
theorem part_end {a b : Nat} (ha : a < n) : part op q k n 0 a b = rl op q k a b := if_pos (.inl ha)
theorem rl_col (o : Op0 op) (h : Ev0 n q) (hk : k < n) {a : Nat} (ha : a < n) : rl op q k a k = q a k := by
  unfold rl
  have := o.l (q a k) (h.nn a k ha hk)
  rw [h.dg k hk]; omega
theorem rl_row (o : Op0 op) (h : Ev0 n q) (hk : k < n) {b : Nat} (hb : b < n) : rl op q k k b = q k b := by
  unfold rl
  have := o.r (q k b) (h.nn k b hk hb)
  rw [h.dg k hk]; omega
theorem part_step (o : Op0 op) (h : Ev0 n q) (hk : k < n) (hi : i < n) (hj : j < n) {a b : Nat} :
    (if a = i ∧ b = j then min (part op q k i j i j) (op (part op q k i j i k) (part op q k i j k j)) else part op q k i j a b) = part op q k i (j + 1) a b := by
  have e1 : part op q k i j i k = q i k := by
    unfold part
    split
    · exact rl_col o h hk hi
    · rfl
  have e2 : part op q k i j k j = q k j := by
    unfold part
    split
    · exact rl_row o h hk hj
    · rfl
  have e3 : part op q k i j i j = q i j := by
    unfold part
    rw [if_neg (by omega)]
  by_cases hab : a = i ∧ b = j
  · obtain ⟨rfl, rfl⟩ := hab
    rw [if_pos ⟨rfl, rfl⟩, e1, e2, e3]
    unfold part
    rw [if_pos (.inr ⟨rfl, Nat.lt_succ_self _⟩)]; rfl
  · rw [if_neg hab]
    unfold part
    by_cases hc : a < i ∨ (a = i ∧ b < j)
    · rw [if_pos hc, if_pos (by omega)]
    · rw [if_neg hc, if_neg (by omega)]
theorem rl_ev (o : Op0 op) (h : Ev0 n q) (hk : k < n) : Ev0 n (rl op q k) := ⟨fun i hi => by
    have := o.nn _ _ (h.nn i k hi hk) (h.nn k i hk hi)
    unfold rl; rw [h.dg i hi]; omega, fun i j hi hj => by
    unfold rl; rw [h.sy i j hi hj, h.sy i k hi hk, h.sy k j hk hj, o.cm], fun i j hi hj => by
    have := o.nn _ _ (h.nn i k hi hk) (h.nn k j hk hj)
    have := h.nn i j hi hj
    unfold rl; omega⟩
theorem fl_ev (o : Op0 op) (h : Ev0 n q) : ∀ k, k ≤ n → Ev0 n (fl op q k)
  | 0, _ => h
  | k + 1, hk => rl_ev o (fl_ev o h k (by omega)) (by omega)
theorem fl_le : ∀ k i j, fl op q k i j ≤ q i j
  | 0, _, _ => Int.le_refl _
  | k + 1, i, j => by
    have := fl_le k i j
    show min _ _ ≤ _
    omega
theorem fl_ps (o : Op0 op) (h : Ev0 n q) (hp : ∀ i j, i < n → j < n → i ≠ j → 0 < q i j) : ∀ k, k ≤ n → ∀ i j, i < n → j < n → i ≠ j → 0 < fl op q k i j
  | 0, _, i, j, hi, hj, hij => hp i j hi hj hij
  | k + 1, hk, i, j, hi, hj, hij => by
    have ih := fl_ps o h hp k (by omega)
    have E := fl_ev o h k (by omega)
    have h1 := ih i j hi hj hij
    have h2 : 0 < op (fl op q k i k) (fl op q k k j) := by
      have n1 := E.nn i k hi (by omega)
      have n2 := E.nn k j (by omega) hj
      by_cases hik : i = k
      · rw [o.cm]
        exact o.ps _ _ n2 n1 (ih k j (by omega) hj (by omega))
      · exact o.ps _ _ n1 n2 (ih i k hi (by omega) hik)
    show 0 < min _ _
    omega
/-- lowered over all: no way is short -/
theorem fl_tr (o : Op0 op) (h : Ev0 n q) : ∀ k, k ≤ n → ∀ m i j, m < k → i < n → j < n → fl op q k i j ≤ op (fl op q k i m) (fl op q k m j)
  | 0, _, m, _, _, hm, _, _ => by omega
  | k + 1, hk, m, i, j, hm, hi, hj => by
    have ih := fl_tr o h k (by omega)
    have E := fl_ev o h k (by omega)
    have hkn : k < n := by omega
    have hmn : m < n := by omega
    show rl op (fl op q k) k i j ≤ op (rl op (fl op q k) k i m) (rl op (fl op q k) k m j)
    generalize fl op q k = r at ih E ⊢
    by_cases hmk : m = k
    · subst hmk
      rw [rl_col o E hkn hi, rl_row o E hkn hj]
      unfold rl; omega
    · have hm : m < k := by omega
      have q1 := ih m i j hm hi hj
      have q2 := ih m i k hm hi hkn
      have q3 := ih m k j hm hkn hj
      have t1 := E.nn m k hmn hkn
      have t2 := E.nn k m hkn hmn
      unfold rl
      have c1 : r i m ≤ op (r i k) (r k m) ∨ op (r i k) (r k m) ≤ r i m := Int.le_total _ _
      have c2 : r m j ≤ op (r m k) (r k j) ∨ op (r m k) (r k j) ≤ r m j := Int.le_total _ _
      have b0 : min (r i j) (op (r i k) (r k j)) ≤ r i j := by omega
      have b1 : min (r i j) (op (r i k) (r k j)) ≤ op (r i k) (r k j) := by omega
      rcases c1 with c1 | c1 <;> rcases c2 with c2 | c2
      · rw [Int.min_eq_left c1, Int.min_eq_left c2]; omega
      · rw [Int.min_eq_left c1, Int.min_eq_right c2]
        have s1 := o.mono (r i k) (op (r i m) (r m k)) (r k j) (r k j) q2 (Int.le_refl _)
        rw [o.as] at s1
        omega
      · rw [Int.min_eq_right c1, Int.min_eq_left c2]
        have s1 := o.mono (r i k) (r i k) (r k j) (op (r k m) (r m j)) (Int.le_refl _) q3
        rw [← o.as] at s1
        omega
      · rw [Int.min_eq_right c1, Int.min_eq_right c2]
        have s0 : r k j ≤ op (r k m) (op (r m k) (r k j)) := by
          have a1 := o.r (r k j) (E.nn k j hkn hj)
          have a2 := o.nn _ _ t2 t1
          have a3 := o.mono 0 (op (r k m) (r m k)) (r k j) (r k j) a2 (Int.le_refl _)
          rw [o.as] at a3
          omega
        have s1 := o.mono (r i k) (r i k) _ _ (Int.le_refl _) s0
        rw [← o.as] at s1
        omega
end
end PF
set_option Elab.async false
set_option linter.all false
set_option maxRecDepth 100000
set_option maxHeartbeats 400000
/-! FE1: the loops of drawn tables (printed by mkfl.py) -/
namespace PF
open PySem PySem.Spec PyProof.Rows L2 DL
theorem short_loops {n : Nat} {q : Nat → Nat → Int} (hn : n ≤ 1000) (h : Ev0 n q) {T : D} {A B C : Sl} {s : Src} : Yx (sFor (iOf rg1 (eAs (eVar 1) eAs0)) (gN 3) b__law_short_4 [.rd T, .rd (.int (n : Nat)), .ow (vL n fun a => vL n fun b => .int (q a b)), A, B, C, .no] s) (fun δ s' => s' = s ∧ ∃ A B C, δ = [.rd T, .rd (.int (n : Nat)), .ow (vL n fun a => vL n fun b => .int (fl (· + ·) q n a b)), A, B, C, .no]) := by
  have rn : rg1 [.int (n : Nat)] = some (seqF n fun i => .int (i : Nat)) := rg1_F (by omega)
  refine Yl.for_ (n := n) (f := fun i => .int (i : Nat)) (s1 := s) (fun k δ s' => s' = s ∧ ∃ A B C, δ = [.rd T, .rd (.int (n : Nat)), .ow (vL n fun a => vL n fun b => .int (fl (· + ·) q k a b)), A, B, C, .no]) (by simp [rn]) ⟨rfl, _, _, _, rfl⟩ ?_
  rintro k δ s' hk ⟨rfl, A, B, C, rfl⟩
  refine ⟨rfl, _, rfl, ?_⟩
  have E := fl_ev op_add h k (by omega)
  have en : fl (· + ·) q (k + 1) = rl (· + ·) (fl (· + ·) q k) k := rfl
  rw [en]
  generalize fl (· + ·) q k = r at E ⊢
  unfold b__law_short_4
  refine .imp (Yl.for_ (n := n) (f := fun i => .int (i : Nat)) (s1 := s') (fun i δ s => s = s' ∧ ∃ B C, δ = [.rd T, .rd (.int (n : Nat)), .ow (vL n fun a => vL n fun b => .int (part (· + ·) r k i 0 a b)), .rd (.int (k : Nat)), B, C, .no]) (by simp [rn]) ⟨rfl, B, C, by rw [part_start]; rfl⟩ ?_) ?_
  · rintro i δ s hi ⟨rfl, B, C, rfl⟩
    refine ⟨rfl, _, rfl, ?_⟩
    unfold b__law_short_3
    refine .imp (Yl.for_ (n := n) (f := fun i => .int (i : Nat)) (s1 := s) (fun j δ s' => s' = s ∧ ∃ C, δ = [.rd T, .rd (.int (n : Nat)), .ow (vL n fun a => vL n fun b => .int (part (· + ·) r k i j a b)), .rd (.int (k : Nat)), .rd (.int (i : Nat)), C, .no]) (by simp [rn]) ⟨rfl, C, rfl⟩ ?_) ?_
    · rintro j δ s' hj ⟨rfl, C, rfl⟩
      refine ⟨rfl, _, rfl, ?_⟩
      unfold b__law_short_2
      refine .mk (Yl.sub2 (i := 2) (n := n) (m := n) (q := fun a b => .int (part (· + ·) r k i j a b)) (a := i) (b := j) (v := .int (min (part (· + ·) r k i j i j) ((· + ·) (part (· + ·) r k i j i k) (part (· + ·) r k i j k j)))) (s1 := s') rfl hi hj (fun _ _ => rfl) rfl ?_ (by simp) (by simp)) ⟨rfl, .rd (.int (j : Nat)), ?_⟩
      · simp (disch := omega)
      · have e : (fun a => vL n fun b => if a = i ∧ b = j then D.int (min (part (· + ·) r k i j i j) ((· + ·) (part (· + ·) r k i j i k) (part (· + ·) r k i j k j))) else D.int (part (· + ·) r k i j a b)) = fun a => vL n fun b => D.int (part (· + ·) r k i (j + 1) a b) := by
          funext a
          refine vL_congr fun b _ => ?_
          rw [← part_step op_add E hk hi hj]
          split <;> rfl
        simp only [List.set_cons_succ, List.set_cons_zero, e]
    · rintro δ s' ⟨rfl, C, rfl⟩
      refine ⟨rfl, .rd (.int (i : Nat)), C, ?_⟩
      have e : (vL n fun a => vL n fun b => D.int (part (· + ·) r k i n a b)) = vL n fun a => vL n fun b => D.int (part (· + ·) r k (i + 1) 0 a b) := vL_congr fun a _ => vL_congr fun b hb => by rw [part_next hb]
      rw [e]
  · rintro δ s ⟨rfl, B, C, rfl⟩
    refine ⟨rfl, .rd (.int (k : Nat)), B, C, ?_⟩
    have e : (vL n fun a => vL n fun b => D.int (part (· + ·) r k n 0 a b)) = vL n fun a => vL n fun b => D.int (rl (· + ·) r k a b) := vL_congr fun a ha => vL_congr fun b _ => by rw [part_end ha]
    rw [e]
theorem dist_loops {n : Nat} {q : Nat → Nat → Int} (hn : n ≤ 1000) (h : Ev0 n q) {M : D} {A B C : Sl} {s : Src} : Yx (sFor (iOf rg1 (eAs (eVar 1) eAs0)) (gN 7) b__law_distances_5 [.rd .src, .rd (.int (n : Nat)), .rd M, .no, .no, .no, .ow (vL n fun a => vL n fun b => .int (q a b)), A, B, C, .no] s) (fun δ s' => s' = s ∧ ∃ A B C, δ = [.rd .src, .rd (.int (n : Nat)), .rd M, .no, .no, .no, .ow (vL n fun a => vL n fun b => .int (fl (fun x y : Int => max x y) q n a b)), A, B, C, .no]) := by
  have rn : rg1 [.int (n : Nat)] = some (seqF n fun i => .int (i : Nat)) := rg1_F (by omega)
  refine Yl.for_ (n := n) (f := fun i => .int (i : Nat)) (s1 := s) (fun k δ s' => s' = s ∧ ∃ A B C, δ = [.rd .src, .rd (.int (n : Nat)), .rd M, .no, .no, .no, .ow (vL n fun a => vL n fun b => .int (fl (fun x y : Int => max x y) q k a b)), A, B, C, .no]) (by simp [rn]) ⟨rfl, _, _, _, rfl⟩ ?_
  rintro k δ s' hk ⟨rfl, A, B, C, rfl⟩
  refine ⟨rfl, _, rfl, ?_⟩
  have E := fl_ev op_max h k (by omega)
  have en : fl (fun x y : Int => max x y) q (k + 1) = rl (fun x y : Int => max x y) (fl (fun x y : Int => max x y) q k) k := rfl
  rw [en]
  generalize fl (fun x y : Int => max x y) q k = r at E ⊢
  unfold b__law_distances_5
  refine .imp (Yl.for_ (n := n) (f := fun i => .int (i : Nat)) (s1 := s') (fun i δ s => s = s' ∧ ∃ B C, δ = [.rd .src, .rd (.int (n : Nat)), .rd M, .no, .no, .no, .ow (vL n fun a => vL n fun b => .int (part (fun x y : Int => max x y) r k i 0 a b)), .rd (.int (k : Nat)), B, C, .no]) (by simp [rn]) ⟨rfl, B, C, by rw [part_start]; rfl⟩ ?_) ?_
  · rintro i δ s hi ⟨rfl, B, C, rfl⟩
    refine ⟨rfl, _, rfl, ?_⟩
    unfold b__law_distances_4
    refine .imp (Yl.for_ (n := n) (f := fun i => .int (i : Nat)) (s1 := s) (fun j δ s' => s' = s ∧ ∃ C, δ = [.rd .src, .rd (.int (n : Nat)), .rd M, .no, .no, .no, .ow (vL n fun a => vL n fun b => .int (part (fun x y : Int => max x y) r k i j a b)), .rd (.int (k : Nat)), .rd (.int (i : Nat)), C, .no]) (by simp [rn]) ⟨rfl, C, rfl⟩ ?_) ?_
    · rintro j δ s' hj ⟨rfl, C, rfl⟩
      refine ⟨rfl, _, rfl, ?_⟩
      unfold b__law_distances_3
      refine .mk (Yl.sub2 (i := 6) (n := n) (m := n) (q := fun a b => .int (part (fun x y : Int => max x y) r k i j a b)) (a := i) (b := j) (v := .int (min (part (fun x y : Int => max x y) r k i j i j) ((fun x y : Int => max x y) (part (fun x y : Int => max x y) r k i j i k) (part (fun x y : Int => max x y) r k i j k j)))) (s1 := s') rfl hi hj (fun _ _ => rfl) rfl ?_ (by simp) (by simp)) ⟨rfl, .rd (.int (j : Nat)), ?_⟩
      · simp (disch := omega)
      · have e : (fun a => vL n fun b => if a = i ∧ b = j then D.int (min (part (fun x y : Int => max x y) r k i j i j) ((fun x y : Int => max x y) (part (fun x y : Int => max x y) r k i j i k) (part (fun x y : Int => max x y) r k i j k j))) else D.int (part (fun x y : Int => max x y) r k i j a b)) = fun a => vL n fun b => D.int (part (fun x y : Int => max x y) r k i (j + 1) a b) := by
          funext a
          refine vL_congr fun b _ => ?_
          rw [← part_step op_max E hk hi hj]
          split <;> rfl
        simp only [List.set_cons_succ, List.set_cons_zero, e]
    · rintro δ s' ⟨rfl, C, rfl⟩
      refine ⟨rfl, .rd (.int (i : Nat)), C, ?_⟩
      have e : (vL n fun a => vL n fun b => D.int (part (fun x y : Int => max x y) r k i n a b)) = vL n fun a => vL n fun b => D.int (part (fun x y : Int => max x y) r k (i + 1) 0 a b) := vL_congr fun a _ => vL_congr fun b hb => by rw [part_next hb]
      rw [e]
  · rintro δ s ⟨rfl, B, C, rfl⟩
    refine ⟨rfl, .rd (.int (k : Nat)), B, C, ?_⟩
    have e : (vL n fun a => vL n fun b => D.int (part (fun x y : Int => max x y) r k n 0 a b)) = vL n fun a => vL n fun b => D.int (rl (fun x y : Int => max x y) r k a b) := vL_congr fun a ha => vL_congr fun b _ => by rw [part_end ha]
    rw [e]
end PF
set_option Elab.async false
set_option linter.all false
set_option maxRecDepth 100000
set_option maxHeartbeats 400000
/-! FE2: drawn tables and distances. -/
namespace PF
open PySem PySem.Spec PyProof.Rows L2 DL
/-- an even table with 0 in the middle, numbers from 1 to top -/
structure Evn (n : Nat) (top : Int) (q : Nat → Nat → Int) : Prop where
  dg : ∀ i, i < n → q i i = 0
  sy : ∀ i j, i < n → j < n → q i j = q j i
  ps : ∀ i j, i < n → j < n → i ≠ j → 1 ≤ q i j
  hi : ∀ i j, i < n → j < n → q i j ≤ top
section
variable {n : Nat} {top : Int} {q : Nat → Nat → Int} {s : Src}
theorem Evn.ev0 (h : Evn n top q) : Ev0 n q := ⟨h.dg, h.sy, fun i j hi hj => by
  by_cases e : i = j
  · subst e; rw [h.dg i hi]; exact Int.le_refl _
  · have := h.ps i j hi hj e; omega⟩
theorem Evn.tab (h : Evn n top q) (h1 : 1 ≤ n) (h8 : n ≤ 8) (ht : top ≤ 1000) : Tab n q := ⟨h1, h8, h.ev0.nn, fun i j hi hj => by have := h.hi i j hi hj; omega, h.dg, h.sy⟩
theorem short (hn : n ≤ 1000) (h : Ev0 n q) : F__law_short [tF n q] s = some (tF n (fl (· + ·) q n), s) := by
  refine R__law_short ?_
  unfold g__law_short
  refine .seq (.set (d := .int (n : Nat)) (by simp) rfl) (.seq (.own (d := vL n fun a => vL n fun b => .int (q a b)) ?_) (.then_ (short_loops hn h) ?_))
  · unfold c__law_short_1
    exact .lc (s1 := s) (f := fun i => rF n (q i)) (by simp) (by omega) fun i hi => ⟨_, rfl, rfl, by simp⟩
  · rintro δ s' ⟨rfl, A, B, C, rfl⟩
    refine .ret (.call (.as1 (d := vL n fun a => rF n (fl (· + ·) q n a)) ?_) (by simp))
    unfold c__law_short_5
    exact .lc (s1 := s') (f := fun i => vL n fun b => .int (fl (· + ·) q n i b)) (by simp) (by omega) fun i hi => ⟨_, rfl, rfl, by simp⟩
theorem fl_dist (h : Evn n top q) (h1 : 1 ≤ n) (h8 : n ≤ 8) (ht : top ≤ 1000) : Dist n (fl (· + ·) q n) := by
  have E := fl_ev op_add h.ev0 n (Nat.le_refl _)
  exact ⟨⟨h1, h8, E.nn, fun i j hi hj => by
    have := fl_le (op := (· + ·)) (q := q) n i j
    have := h.hi i j hi hj
    omega, E.dg, E.sy⟩, fl_ps op_add h.ev0 (fun i j hi hj hij => by have := h.ps i j hi hj hij; omega) n (Nat.le_refl _), fun i j k hi hj hk => fl_tr op_add h.ev0 n (Nat.le_refl _) k i j hk hi hj⟩
theorem fl_ultra (h : Evn n top q) (h1 : 1 ≤ n) (h8 : n ≤ 8) (ht : top ≤ 1000) : Dist n (fl (fun x y => max x y) q n) := by
  have E := fl_ev op_max h.ev0 n (Nat.le_refl _)
  exact ⟨⟨h1, h8, E.nn, fun i j hi hj => by
    have := fl_le (op := fun x y => max x y) (q := q) n i j
    have := h.hi i j hi hj
    omega, E.dg, E.sy⟩, fl_ps op_max h.ev0 (fun i j hi hj hij => by have := h.ps i j hi hj hij; omega) n (Nat.le_refl _), fun i j k hi hj hk => by
    have a : fl (fun x y => max x y) q n i j ≤ max (fl (fun x y => max x y) q n i k) (fl (fun x y => max x y) q n k j) := fl_tr op_max h.ev0 n (Nat.le_refl _) k i j hk hi hj
    have := E.nn i k hi hk
    have := E.nn k j hk hj
    omega⟩
/-! tables -/
theorem replic (n : Nat) : (List.replicate n [D.int 0]).flatten = seqF n fun _ => .int 0 := by
  have e : ∀ k : Nat, (List.replicate k [D.int 0]).flatten = List.replicate k (D.int 0) := fun k => by
    induction k with
    | zero => rfl
    | succ k ih => rw [List.replicate_succ, List.flatten_cons, ih, List.replicate_succ]; rfl
  rw [e]
  exact seqF_ext List.length_replicate fun i hi => by rw [List.getElem?_replicate, if_pos hi]
/-- filled up to row i, place j -/
structure Tb (n : Nat) (top : Int) (i j : Nat) (q : Nat → Nat → Int) : Prop where
  dg : ∀ a, a < n → q a a = 0
  sy : ∀ a b, a < n → b < n → q a b = q b a
  hi : ∀ a b, a < n → b < n → q a b ≤ top
  lo : ∀ a b, a < n → b < a → (a < i ∨ (a = i ∧ b < j)) → 1 ≤ q a b
theorem table {top : Nat} (hn : n ≤ 1000) (h1 : 1 ≤ top) (h2 : top ≤ 1000000) (s : Src) : ∃ q s', Evn n (top : Nat) q ∧ F__law_table [.src, .int (n : Nat), .int (top : Nat)] s = some (tF n q, s') := by
  have rr : ∀ m : Nat, m ≤ 1000 → rg1 [.int (m : Nat)] = some (seqF m fun i => .int (i : Nat)) := fun m hm => rg1_F (by omega)
  have c1 : Yl (c__law_table_1 [.rd .src, .rd (.int (n : Nat)), .rd (.int (top : Nat)), .no, .no, .no, .no, .no] s) (vL n fun a => vL n fun b => .int 0) s := by
    unfold c__law_table_1
    refine .lc (s1 := s) (f := fun i => .int (i : Nat)) (by simp [rr n hn]) (by omega) fun i hi => ⟨_, rfl, rfl, ?_⟩
    have em : dMul (.lst [.int 0]) (.int (n : Nat)) = some (vL n fun _ => .int 0) := by
      show (if _ then _ else _) = _
      rw [if_pos ⟨by omega, by omega, by simp, by simp⟩, Int.toNat_natCast, replic]; rfl
    unfold eRepF
    rw [bd_ap]
    have e0 : (eLst (eAs (eC (.int 0)) eAs0)) (([.rd .src, .rd (.int (n : Nat)), .rd (.int (top : Nat)), .no, .no, .no, .no, .no] : Ev).set 6 (.rd (.int (i : Nat)))) s = some (.lst [.int 0], s) := by simp
    show Yl (Option.bind ((eLst (eAs (eC (.int 0)) eAs0)) (([.rd .src, .rd (.int (n : Nat)), .rd (.int (top : Nat)), .no, .no, .no, .no, .no] : Ev).set 6 (.rd (.int (i : Nat)))) s) _) _ _
    rw [e0, Option.bind_some, bd_ap]
    show Yl (Option.bind (some (D.int (n : Nat), s)) _) _ _
    rw [Option.bind_some]
    show Yl (M.of (dMul (.lst [.int 0]) (.int (n : Nat))) s) _ _
    rw [em]; rfl
  have lp : Yx (sFor (iOf rg1 (eAs (eVar 1) eAs0)) (gN 4) b__law_table_3 [.rd .src, .rd (.int (n : Nat)), .rd (.int (top : Nat)), .ow (vL n fun a => vL n fun b => .int 0), .no, .no, .no, .no] s) (fun δ _ => ∃ q A B, δ = [.rd .src, .rd (.int (n : Nat)), .rd (.int (top : Nat)), .ow (vL n fun a => vL n fun b => .int (q a b)), A, B, .no, .no] ∧ Tb n (top : Nat) n 0 q) := by
    refine Yl.for_ (h := iOf rg1 (eAs (eVar 1) eAs0)) (tg := gN 4) (body := b__law_table_3) (n := n) (f := fun i => .int (i : Nat)) (s := s) (s1 := s) (fun i δ _ => ∃ q A B, δ = [.rd .src, .rd (.int (n : Nat)), .rd (.int (top : Nat)), .ow (vL n fun a => vL n fun b => .int (q a b)), A, B, .no, .no] ∧ Tb n (top : Nat) i 0 q) (by simp [rr n hn]) ⟨fun _ _ => 0, .no, .no, rfl, fun _ _ => rfl, fun _ _ _ _ => rfl, fun _ _ _ _ => by omega, fun a b _ _ h => by omega⟩ ?_
    rintro i δ s' hi ⟨q, A, B, rfl, hq⟩
    refine ⟨rfl, _, rfl, ?_⟩
    unfold b__law_table_3
    refine .imp (Yl.for_ (h := iOf rg1 (eAs (eVar 4) eAs0)) (tg := gN 5) (body := b__law_table_2) (n := i) (f := fun i => .int (i : Nat)) (s := s') (s1 := s') (fun j δ _ => ∃ q B, δ = [.rd .src, .rd (.int (n : Nat)), .rd (.int (top : Nat)), .ow (vL n fun a => vL n fun b => .int (q a b)), .rd (.int (i : Nat)), B, .no, .no] ∧ Tb n (top : Nat) i j q) (by simp [rr i (by omega)]) ⟨q, B, rfl, hq⟩ ?_) ?_
    · rintro j δ s2 hj ⟨q, B, rfl, hq⟩
      obtain ⟨v, hv, ev⟩ := take_nat s2 (m := top) (by omega) (by omega)
      refine ⟨rfl, _, rfl, ?_⟩
      unfold b__law_table_2
      refine .mk (.seq (Yl.sub2 (i := 3) (n := n) (m := n) (q := fun a b => .int (q a b)) (a := i) (b := j) (v := .int (1 + (v : Int))) (s1 := (take s2 (top : Nat)).2) rfl hi (show j < n by omega) (fun _ _ => rfl) rfl (by simp [ev]) (by simp) (by simp))
        (Yl.sub2 (i := 3) (n := n) (m := n) (q := fun a b => if a = i ∧ b = j then .int (1 + (v : Int)) else .int (q a b)) (a := j) (b := i) (v := .int (1 + (v : Int))) (s1 := (take s2 (top : Nat)).2) rfl (show j < n by omega) hi (fun a b => by split <;> rfl) rfl (by simp (disch := omega)) (by simp) (by simp)))
        ⟨fun a b => if a = j ∧ b = i then 1 + (v : Int) else if a = i ∧ b = j then 1 + (v : Int) else q a b, .rd (.int (j : Nat)), ?_, ?_⟩
      · have e : (fun a => vL n fun b => if a = j ∧ b = i then D.int (1 + (v : Int)) else if a = i ∧ b = j then D.int (1 + (v : Int)) else D.int (q a b)) = fun a => vL n fun b => D.int (if a = j ∧ b = i then 1 + (v : Int) else if a = i ∧ b = j then 1 + (v : Int) else q a b) := by
          funext a
          refine vL_congr fun b _ => ?_
          split
          · rfl
          · split <;> rfl
        simp only [List.set_cons_succ, List.set_cons_zero, e]
      · refine ⟨fun a ha => ?_, fun a b ha hb => ?_, fun a b ha hb => ?_, fun a b ha hb hc => ?_⟩
        · rw [if_neg (by omega), if_neg (by omega)]; exact hq.dg a ha
        · rw [hq.sy a b ha hb]
          by_cases c1 : a = j ∧ b = i
          · rw [if_pos c1, if_neg (by omega), if_pos (by omega)]
          · rw [if_neg c1]
            by_cases c2 : a = i ∧ b = j
            · rw [if_pos c2, if_pos (by omega)]
            · rw [if_neg c2, if_neg (by omega), if_neg (by omega)]
        · have := hq.hi a b ha hb
          split
          · omega
          · split <;> omega
        · rw [if_neg (by omega)]
          by_cases c2 : a = i ∧ b = j
          · rw [if_pos c2]; omega
          · rw [if_neg c2]; exact hq.lo a b ha hb (by omega)
    · rintro δ s2 ⟨q, B, rfl, hq⟩
      exact ⟨q, _, B, rfl, hq.dg, hq.sy, hq.hi, fun a b ha hb hc => hq.lo a b ha hb (by omega)⟩
  obtain ⟨δ, s2, e2, q, A, B, rfl, hq⟩ := lp
  refine ⟨q, s2, ⟨hq.dg, hq.sy, fun i j hi hj hij => ?_, hq.hi⟩, R__law_table ?_⟩
  · rcases Nat.lt_or_gt_of_ne hij with g | g
    · rw [hq.sy i j hi hj]; exact hq.lo j i hj g (.inl hj)
    · exact hq.lo i j hi g (.inl hi)
  · unfold g__law_table
    refine .seq (.own c1) (.seq e2 (.ret (.call (.as1 (d := vL n fun a => rF n (q a)) ?_) (by simp))))
    unfold c__law_table_4
    exact .lc (s1 := s2) (f := fun i => vL n fun b => .int (q i b)) (by simp) (by omega) fun i hi => ⟨_, rfl, rfl, by simp⟩
end
end PF
set_option Elab.async false
set_option linter.all false
set_option maxRecDepth 100000
set_option maxHeartbeats 400000
/-! FE3: drawn distances. -/
namespace PF
open PySem PySem.Spec PyProof.Rows L2 DL
theorem cut_F {n m : Nat} (f : Nat → D) (h : m ≤ n) : DL.cutD (seqF n f) none (some (m : Nat)) = seqF m f := by
  unfold DL.cutD
  have e1 : HT.sIx (seqF n f).length 0 none = 0 := rfl
  have e2 : HT.sIx (seqF n f).length (seqF n f).length (some (m : Nat)) = m := by
    rw [HT.sIx_nat, seqF_len]; omega
  rw [e1, e2, List.drop_zero, Nat.sub_zero]
  refine seqF_ext (by rw [List.length_take, seqF_len]; omega) fun i hi => ?_
  rw [List.getElem?_take, if_pos hi, seqF_get (by omega)]
theorem slT {n m : Nat} (f : Nat → D) (h : m ≤ n) : dSl (vT n f) none (some (m : Nat)) = some (vT m f) := congrArg some (congrArg D.tup (cut_F f h))
theorem slL {n m : Nat} (f : Nat → D) (h : m ≤ n) : dSl (vL n f) none (some (m : Nat)) = some (vL m f) := congrArg some (congrArg D.lst (cut_F f h))
@[simp] theorem fNo_ap (δ : Ev) (s : Src) : fNo δ s = some (none, s) := rfl
@[simp] theorem fSo_ap (f : FE) (δ : Ev) (s : Src) : fSo f δ s = (f δ s).bind fun p => M.of (match p.1 with | .int i => some (some i) | _ => none) p.2 := by
  simp only [fSo, bd_ap] <;> congr
@[simp] theorem eSl_ap (f : FE) (lo hi : FO) (δ : Ev) (s : Src) : eSl f lo hi δ s = (f δ s).bind fun a => (lo δ a.2).bind fun l => (hi δ l.2).bind fun u => M.of (dSl a.1 l.1 u.1) u.2 := by
  simp only [eSl, bd_ap]
@[simp] theorem sSetA_ap {i : Nat} {f : FE} {δ : Ev} {s : Src} : sSetA i f δ s = (f δ s).bind fun p => if noOw δ = true then some (.nx (δ.set i (.rd p.1)), p.2) else none := by
  simp only [sSetA, bd_ap]; congr; funext k; split <;> rfl
/-- distances, at most 1000 -/
theorem Dist.of_tree {J n : Nat} {es : List Edge} {m : Nat} {top : Nat} {d : Nat → Nat → Int} {h : Nat → Nat → Nat} (T : Tre (fun x => x < J) es m (top : Nat) d h) (hn : n ≤ J) (h1 : 1 ≤ n) (h8 : n ≤ 8) (hb : top * m ≤ 1000) : Dist n d :=
  ⟨⟨h1, h8, fun i j hi hj => T.nn (show i < J by omega) (show j < J by omega), fun i j hi hj => by
    have a := T.db i j (show i < J by omega) (show j < J by omega)
    have b := T.hb i j (show i < J by omega) (show j < J by omega)
    have c : top * h i j ≤ top * m := Nat.mul_le_mul_left _ b
    have e : ((top : Int) * (h i j : Nat)) = ((top * h i j : Nat) : Int) := by simp
    rw [e] at a
    omega, fun i hi => T.d0 i (show i < J by omega), fun i j hi hj => T.sy i j (show i < J by omega) (show j < J by omega)⟩, fun i j hi hj hij => T.ps i j (show i < J by omega) (show j < J by omega) hij, fun i j k hi hj hk => T.tr i j k (show i < J by omega) (show j < J by omega) (show k < J by omega)⟩
/-- what is drawn: distances up to b -/
structure Dd (n : Nat) (t : Nat → Nat → Int) : Prop extends Dist n t where
  le : ∀ i j, i < n → j < n → t i j ≤ 100
theorem dists {n : Nat} (h1 : 1 ≤ n) (h8 : n ≤ 8) (s : Src) : ∃ t s', Dd n t ∧ F__law_distances [.src, .int (n : Nat)] s = some (tF n t, s') := by
  have rr : rg1 [.int (n : Nat)] = some (seqF n fun i => .int (i : Nat)) := rg1_F (by omega)
  obtain ⟨k, hk, e0⟩ := take_nat s (m := 5) (by omega) (by omega)
  have e0 : F__law_take [.src, .int 5] s = some (.int (k : Nat), (take s (5 : Nat)).2) := e0
  generalize (take s (5 : Nat)).2 = s1 at e0
  have st0 : Yl (sSet 2 (eFn (fun ds => if ds.length = 2 then F__law_take ds else M.no) (eAs (eVar 0) (eAs (eC (.int 5)) eAs0))) [.rd .src, .rd (.int (n : Nat)), .no, .no, .no, .no, .no, .no, .no, .no, .no] s) (.nx [.rd .src, .rd (.int (n : Nat)), .rd (.int (k : Nat)), .no, .no, .no, .no, .no, .no, .no, .no]) s1 := .setS (by simp [e0]) rfl
  by_cases c0 : k = 0
  · subst c0
    obtain ⟨J, es, d, h, s2, e2, hJ1, hJ2, hl, hlt, _, T⟩ := tree (n := n) (more := 3) (top := 5) h1 (by omega) (by omega) (by omega) s1
    have e2 : F__law_tree [.src, .int (n : Nat), .int 3, .int 5] s1 = some (.lst [.int (J : Nat), .tup (es.map enE)], s2) := e2
    have e3 := along (by omega) T (by omega) s2
    have DD := Dist.of_tree (top := 5) T hJ1 h1 h8 (by omega)
    refine ⟨d, s2, ⟨DD, fun i j hi hj => ?_⟩, R__law_distances ?_⟩
    · have a := T.db i j (show i < J by omega) (show j < J by omega)
      have b := T.hb i j (show i < J by omega) (show j < J by omega)
      omega
    unfold g__law_distances
    refine .seq st0 (.seqR (.ifT (.bOf (by simp)) ?_))
    refine .seq (δ1 := [.rd .src, .rd (.int (n : Nat)), .rd (.int 0), .rd (.int (J : Nat)), .rd (.tup (es.map enE)), .no, .no, .no, .no, .no, .no]) (s1 := s2) ?_ (.seq (δ1 := [.rd .src, .rd (.int (n : Nat)), .rd (.int 0), .rd (.int (J : Nat)), .rd (.tup (es.map enE)), .rd (vL J fun i => vL J fun x => .int (d i x)), .no, .no, .no, .no, .no]) (s1 := s2) ?_ (.ret (.call (.as1 (d := vL n fun i => rF n (d i)) ?_) (by simp))))
    · have lfe : lfs (es.map enE) = true := lfs_map lf_enE es
      simp [e2, lfe]
    · simp [e3, noOw]
    · unfold c__law_distances_1
      refine .lc (s1 := s2) (f := fun i => vL J fun x => .int (d i x)) ?_ (by omega) fun i hi => ⟨_, rfl, rfl, ?_⟩
      · simp [slL (fun i => vL J fun x => D.int (d i x)) hJ1]
      · simp [slL (fun x => D.int (d i x)) hJ1]
  by_cases c1 : k = 1
  · subst c1
    obtain ⟨q, s2, hq, e2⟩ := table (n := n) (top := 9) (by omega) (by omega) (by omega) s1
    have e2 : F__law_table [.src, .int (n : Nat), .int 9] s1 = some (tF n q, s2) := e2
    refine ⟨fl (fun x y => max x y) q n, s2, ⟨fl_ultra hq h1 h8 (by omega), fun i j hi hj => ?_⟩, R__law_distances ?_⟩
    · have := fl_le (op := fun x y => max x y) (q := q) n i j
      have := hq.hi i j hi hj
      omega
    unfold g__law_distances
    refine .seq st0 (.seq (.ifF (.bOf (by simp)) .nil) (.seqR (.ifT (.bOf (by simp)) ?_)))
    refine .seq (.ownS (d := vL n fun a => vL n fun b => .int (q a b)) (s1 := s2) ?_) (.then_ (dist_loops (M := .int 1) (by omega) hq.ev0) ?_)
    · unfold c__law_distances_2
      exact .lc (s1 := s2) (f := fun i => rF n (q i)) (by simp [e2]) (by omega) fun i hi => ⟨_, rfl, rfl, by simp⟩
    · rintro δ s' ⟨rfl, A, B, C, rfl⟩
      refine .ret (.call (.as1 (d := vL n fun a => rF n (fl (fun x y => max x y) q n a)) ?_) (by simp))
      unfold c__law_distances_6
      exact .lc (s1 := s') (f := fun i => vL n fun b => .int (fl (fun x y => max x y) q n i b)) (by simp) (by omega) fun i hi => ⟨_, rfl, rfl, by simp⟩
  · obtain ⟨top, s2, ht, e2⟩ : ∃ (top : Nat) (s2 : Src), (1 ≤ top ∧ top ≤ 100) ∧ F__law_pick [.src, .lst [.int 1, .int 2, .int 4, .int 9, .int 30]] s1 = some (.int (top : Nat), s2) := by
      obtain ⟨i, s2, hi, e⟩ := pick_F (n := 5) (f := fun i => .int (([1, 2, 4, 9, 30] : List Nat).getD i 0 : Nat)) _ (.inr rfl) (by omega) (by omega) s1
      refine ⟨([1, 2, 4, 9, 30] : List Nat).getD i 0, s2, ?_, e⟩
      match i, hi with
      | 0, _ => exact ⟨by decide, by decide⟩
      | 1, _ => exact ⟨by decide, by decide⟩
      | 2, _ => exact ⟨by decide, by decide⟩
      | 3, _ => exact ⟨by decide, by decide⟩
      | 4, _ => exact ⟨by decide, by decide⟩
    obtain ⟨q, s3, hq, e3⟩ := table (n := n) (top := top) (by omega) ht.1 (by omega) s2
    have e4 := short (s := s3) (show n ≤ 1000 by omega) hq.ev0
    refine ⟨fl (· + ·) q n, s3, ⟨fl_dist hq h1 h8 (by omega), fun i j hi hj => ?_⟩, R__law_distances ?_⟩
    · have := fl_le (op := (· + ·)) (q := q) n i j
      have := hq.hi i j hi hj
      omega
    unfold g__law_distances
    refine .seq st0 (.seq (.ifF (.bOf (by simp; omega)) .nil) (.seq (.ifF (.bOf (by simp; omega)) .nil) (.ret ?_)))
    simp [e2, e3, e4]
end PF
set_option Elab.async false
set_option linter.all false
set_option maxRecDepth 100000
set_option maxHeartbeats 400000
/-! FG: equality of the same; divisors and fractions. -/
namespace PF
open PySem PySem.Spec PyProof.Rows L2 DL
theorem eqv_cons (a b : D) (xs ys : List D) : (D.tup (a :: xs)).eqv (.tup (b :: ys)) = (a.eqv b && (D.tup xs).eqv (.tup ys)) := by
  rw [eqv_tup, eqv_tup, pys, pys, PyData.eqvAll]; rfl
theorem eqv_nil : (D.tup []).eqv (.tup []) = true := by rw [eqv_tup]; rfl
@[simp] theorem dOk_i (k : Nat) (i : Int) : dOk k (.int i) = true := dOk_int k i
@[simp] theorem dOk_b (k : Nat) (i : Bool) : dOk k (.bl i) = true := by cases k <;> rfl
@[simp] theorem dOk_n (k : Nat) : dOk k .non = true := by cases k <;> rfl
@[simp] theorem dOk_t (k : Nat) (xs : List D) : dOk (k + 1) (.tup xs) = xs.all (dOk k) := rfl
@[simp] theorem dOk_vi (k n : Nat) (f : Nat → Int) : dOk (k + 1) (vT n fun i => .int (f i)) = true := dOk_F fun _ _ => dOk_int k _
@[simp] theorem dOk_vt (k n m : Nat) (f : Nat → Nat → Int) : dOk (k + 2) (vT n fun i => vT m fun j => .int (f i j)) = true := dOk_F fun _ _ => dOk_vi k m _
theorem eqv_self : ∀ (n : Nat) (a : D), dOk n a = true → PyData.eqv a.py a.py = true := by
  intro n
  induction n with
  | zero =>
    intro a h
    cases a with
    | non => simp [D.py, PyData.eqv]
    | bl b => simp [D.py, PyData.eqv]
    | int b => simp [D.py, PyData.eqv]
    | str b => simp [D.py, PyData.eqv]
    | tup xs => cases h
    | lst xs => cases h
    | src => cases h
    | dct k => cases h
    | rng _ _ => cases h
    | tupk xs => cases h
  | succ n ih =>
    have al : ∀ xs : List D, xs.all (dOk n) = true → PyData.eqvAll (pys xs) (pys xs) = true := fun xs => by
      induction xs with
      | nil => intro _; rfl
      | cons x xs ihx =>
        intro h
        rw [List.all_cons, Bool.and_eq_true] at h
        rw [pys, PyData.eqvAll, ih x h.1, ihx h.2]; rfl
    intro a h
    cases a with
    | non => simp [D.py, PyData.eqv]
    | bl b => simp [D.py, PyData.eqv]
    | int b => simp [D.py, PyData.eqv]
    | str b => simp [D.py, PyData.eqv]
    | tup xs => rw [D.py, PyData.eqv]; exact al xs h
    | lst xs => rw [D.py, PyData.eqv]; exact al xs h
    | src => cases h
    | dct k => cases h
    | rng _ _ => cases h
    | tupk xs => rw [D.py, PyData.eqv]; exact al xs h
theorem eq_self' {a b : D} (e : a = b) (h : dOk 8 a = true) : dEq a b = some (.bl true) := by
  subst e
  unfold dEq D.eqv
  rw [h, eqv_self 8 a h]; rfl
theorem ne_self' {a b : D} (e : a = b) (h : dOk 8 a = true) : dNe a b = some (.bl false) := by
  subst e
  unfold dNe D.eqv
  rw [h, eqv_self 8 a h]; rfl
/-! ### divisors -/
section
variable {s : Src}
theorem sParI {i j : Nat} {fs : Ev → M (List D)} {δ : Ev} {a b : D} {s1 : Src} (h : Yl (fs δ s) [a, b] s1) (ha : a.lf = true) (hb : b.lf = true) : Yl (sPar i j fs δ s) (.nx ((δ.set i (.rd a)).set j (.rd b))) s1 := by
  unfold Yl at *
  rw [sPar_ap, h, Option.bind_some]
  exact if_pos (by simp [ha, hb])
theorem wgcd {tst : Ev → M Bool} {b : FS} {P : D → D → Ev} (ht : ∀ x y : Nat, Yl (tst (P (.int x) (.int y)) s) (decide (y ≠ 0)) s) (hb : ∀ x y : Nat, 0 < y → Yl (b (P (.int x) (.int y)) s) (.nx (P (.int y) (.int (x % y : Nat)))) s) :
    ∀ (k x y f : Nat), y < 2 ^ k → 2 * k + 1 ≤ f → Yl (wLp tst b f (P (.int x) (.int y)) s) (.nx (P (.int (Nat.gcd x y : Nat)) (.int (0 : Nat)))) s := by
  have stop : ∀ (x f : Nat), 1 ≤ f → Yl (wLp tst b f (P (.int x) (.int (0 : Nat))) s) (.nx (P (.int (Nat.gcd x 0 : Nat)) (.int (0 : Nat)))) s := fun x f hf => by
    obtain ⟨f, rfl⟩ : ∃ g, f = g + 1 := ⟨f - 1, by omega⟩
    rw [Nat.gcd_zero_right]
    have t := (ht x 0).eq
    unfold Yl
    rw [wLp, bd_ap, t]; rfl
  have one : ∀ (x y f : Nat) (o : Out), 0 < y → Yl (wLp tst b f (P (.int y) (.int (x % y : Nat))) s) o s → Yl (wLp tst b (f + 1) (P (.int x) (.int y)) s) o s := fun x y f o hy h => by
    have t := (ht x y).eq
    have e := (hb x y hy).eq
    unfold Yl at *
    rw [wLp, bd_ap, t, Option.bind_some, decide_eq_true (show y ≠ 0 by omega)]
    show ((b (P (.int x) (.int y))).bd _) s = _
    rw [bd_ap, e]
    exact h
  intro k
  induction k with
  | zero =>
    intro x y f hy hf
    have : y = 0 := by omega
    subst this
    exact stop x f (by omega)
  | succ k ih =>
    intro x y f hy hf
    by_cases h0 : y = 0
    · subst h0
      exact stop x f (by omega)
    have g1 : Nat.gcd x y = Nat.gcd y (x % y) := by rw [Nat.gcd_comm x y, Nat.gcd_rec y x, Nat.gcd_comm]
    rw [g1]
    obtain ⟨f1, rfl⟩ : ∃ g, f = g + 1 := ⟨f - 1, by omega⟩
    refine one x y f1 _ (by omega) ?_
    have hr : x % y < y := Nat.mod_lt _ (by omega)
    by_cases h1 : x % y = 0
    · rw [h1]
      exact stop y f1 (by omega)
    generalize x % y = r at hr h1 ⊢
    have g2 : Nat.gcd y r = Nat.gcd r (y % r) := by rw [Nat.gcd_comm y r, Nat.gcd_rec r y, Nat.gcd_comm]
    rw [g2]
    obtain ⟨f2, rfl⟩ : ∃ g, f1 = g + 1 := ⟨f1 - 1, by omega⟩
    refine one y r f2 _ (by omega) (ih r (y % r) f2 ?_ (by omega))
    have h2 : y % r < r := Nat.mod_lt _ (by omega)
    have h3 : 2 * (y % r) < y := by
      have := Nat.div_add_mod y r
      have : 1 ≤ y / r := Nat.div_pos (by omega) (by omega)
      have : r * 1 ≤ r * (y / r) := Nat.mul_le_mul_left _ this
      omega
    rw [Nat.pow_succ] at hy
    omega
theorem gdiv {a b : Int} (hb : b.natAbs < 2 ^ 200) : F_greatest_divisor [.int a, .int b] s = some (.int (Nat.gcd a.natAbs b.natAbs : Nat), s) := by
  refine R_greatest_divisor ?_
  unfold g_greatest_divisor
  refine .seq (sParI (a := .int (a.natAbs : Nat)) (b := .int (b.natAbs : Nat)) (s1 := s) (by simp) rfl rfl) (.seq (δ1 := [.rd (.int (Nat.gcd a.natAbs b.natAbs : Nat)), .rd (.int (0 : Nat))]) (s1 := s) ?_ (.ret (by simp)))
  refine wgcd (P := fun x y => [.rd x, .rd y]) (fun x y => ?_) (fun x y hy => ?_) 200 a.natAbs b.natAbs 1000000 hb (by omega)
  · unfold t_greatest_divisor_2
    refine .bOf ?_
    have : ((y : Int) = 0) ↔ y = 0 := by omega
    simp [this]
  · unfold b_greatest_divisor_1
    have e : dMod (.int (x : Int)) (.int (y : Int)) = some (.int ((x % y : Nat) : Int)) := by
      show (if (0 : Int) < y then some (D.int ((x : Int) % y)) else none) = _
      rw [if_pos (by omega)]; rfl
    exact sParI (a := .int (y : Nat)) (b := .int (x % y : Nat)) (s1 := s) (by simp [e, -Int.natCast_emod]) rfl rfl
/-- lowest terms -/
def frG (a b : Int) : Int := max 1 ((Nat.gcd a.natAbs b.natAbs : Nat) : Int)
def fr (a b : Int) : D := .tup [.int (a / frG a b), .int (b / frG a b)]
theorem frG_pos {a b : Int} (hb : 0 < b) : frG a b = ((Nat.gcd a.natAbs b.natAbs : Nat) : Int) ∧ 0 < frG a b := by
  have : 0 < Nat.gcd a.natAbs b.natAbs := Nat.gcd_pos_of_pos_right _ (by omega)
  unfold frG
  omega
theorem fr_spec {a b : Int} (hb : 0 < b) : ∃ g, 0 < g ∧ a = g * (a / frG a b) ∧ b = g * (b / frG a b) ∧ 0 < b / frG a b := by
  obtain ⟨e, h⟩ := frG_pos (a := a) hb
  have d1 : frG a b ∣ a := by rw [e]; exact Int.ofNat_dvd_left.mpr (Nat.gcd_dvd_left _ _)
  have d2 : frG a b ∣ b := by rw [e]; exact Int.ofNat_dvd_left.mpr (Nat.gcd_dvd_right _ _)
  have e2 := (Int.mul_ediv_cancel' d2).symm
  refine ⟨frG a b, h, (Int.mul_ediv_cancel' d1).symm, e2, ?_⟩
  rcases Int.lt_or_le 0 (b / frG a b) with h1 | h1
  · exact h1
  · have := Int.mul_nonpos_of_nonneg_of_nonpos (Int.le_of_lt h) h1
    omega
theorem fr_same {a b c d : Int} (hb : 0 < b) (hd : 0 < d) (h : a * d = c * b) : fr a b = fr c d := by
  have key : ∀ {a b k : Int}, 0 < b → 0 < k → fr (k * a) (k * b) = fr a b := fun {a b k} hb hk => by
    have hkb : 0 < k * b := Int.mul_pos hk hb
    have e1 := (frG_pos (a := k * a) hkb).1
    have e2 := (frG_pos (a := a) hb)
    have e3 : frG (k * a) (k * b) = k * frG a b := by
      rw [e1, e2.1, Int.natAbs_mul, Int.natAbs_mul, Nat.gcd_mul_left]
      have : ((k.natAbs : Nat) : Int) = k := by omega
      rw [Int.natCast_mul, this]
    unfold fr
    rw [e3, Int.mul_ediv_mul_of_pos _ _ hk, Int.mul_ediv_mul_of_pos _ _ hk]
  have h1 := key (a := a) (b := b) (k := d) hb hd
  have h2 := key (a := c) (b := d) (k := b) hd hb
  rw [← h1, ← h2, Int.mul_comm d a, h, Int.mul_comm c b, Int.mul_comm d b]
theorem lfr (a b : Int) : (fr a b).lf = true := by simp [fr]
theorem okfr (a b : Int) : dOk 8 (fr a b) = true := by simp [fr]
theorem div_ok {a g : Int} (h : 0 < g) (h2 : g.natAbs < 2 ^ 200) : dDiv (.int a) (.int g) = some (.int (a / g)) := by
  show (if 0 < g ∧ g.natAbs.log2 < 9000 then some (D.int (a / g)) else none) = _
  have := (Nat.log2_lt (show g.natAbs ≠ 0 by omega)).mpr h2
  rw [if_pos ⟨h, by omega⟩]
theorem frac {a b : Int} (hb : 0 < b) (hb2 : b.natAbs < 2 ^ 200) : F_fraction [.int a, .int b] s = some (fr a b, s) := by
  refine R_fraction ?_
  unfold g_fraction
  have hg := frG_pos (a := a) hb
  have hle : Nat.gcd a.natAbs b.natAbs ≤ b.natAbs := Nat.gcd_le_right _ (by omega)
  have e1 := gdiv (s := s) (a := a) (b := b) hb2
  refine .seq (.pass (.bOf (by simp; omega))) (.seq (.set (d := .int (frG a b)) ?_ rfl) (.ret ?_))
  · simp [e1, frG]
  · have d1 := div_ok (a := a) hg.2 (by omega)
    have d2 := div_ok (a := b) hg.2 (by omega)
    simp [d1, d2, fr]
theorem lfrac {a b : Int} (hb : 0 < b) (hb2 : b.natAbs < 2 ^ 200) : F__law_frac [.int a, .int b] s = some (fr a b, s) := by
  refine R__law_frac ?_
  unfold g__law_frac
  have hg := frG_pos (a := a) hb
  have hle : Nat.gcd a.natAbs b.natAbs ≤ b.natAbs := Nat.gcd_le_right _ (by omega)
  refine .seq (.set (d := .int (a.natAbs : Nat)) (by simp) rfl) (.seq (.set (d := .int (b.natAbs : Nat)) (by simp) rfl) (.seq (δ1 := [.rd (.int a), .rd (.int b), .rd (.int (Nat.gcd a.natAbs b.natAbs : Nat)), .rd (.int (0 : Nat))]) (s1 := s) ?_ ?_))
  · refine wgcd (P := fun x y => [.rd (.int a), .rd (.int b), .rd x, .rd y]) (fun x y => ?_) (fun x y hy => ?_) 200 a.natAbs b.natAbs 1000000 hb2 (by omega)
    · unfold t__law_frac_2
      refine .bOf ?_
      by_cases h0 : y = 0
      · simp [h0]
      · simp [h0]; omega
    · unfold b__law_frac_1
      have e : dMod (.int (x : Int)) (.int (y : Int)) = some (.int ((x % y : Nat) : Int)) := by
        show (if (0 : Int) < y then some (D.int ((x : Int) % y)) else none) = _
        rw [if_pos (by omega)]; rfl
      exact sParI (a := .int (y : Nat)) (b := .int (x % y : Nat)) (s1 := s) (by simp [e, -Int.natCast_emod]) rfl rfl
  · refine .seq (.set (d := .int (frG a b)) (by simp [frG]) rfl) (.ret ?_)
    have d1 := div_ok (a := a) hg.2 (by omega)
    have d2 := div_ok (a := b) hg.2 (by omega)
    simp [d1, d2, fr, hb]
end
end PF
set_option Elab.async false
set_option linter.all false
set_option maxRecDepth 100000
set_option maxHeartbeats 400000
/-! FH: widths, sums, means. -/
namespace PF
open PySem PySem.Spec PyProof.Rows L2 DL
section
variable {n : Nat} {t : Nat → Nat → Int} {s : Src}
theorem widths (h : Tab n t) : F_widths [tF n t] s = some (rF n fun i => mxF n (t i), s) := by
  have n1 := h.n1
  have n8 := h.n8
  refine R_widths ?_
  unfold g_widths
  refine .seq (.exp (d := .non) (by simp [chkT h])) (.ret (.call (.as1 (d := vL n fun i => .int (mxF n (t i))) ?_) (by simp)))
  unfold c_widths_1
  exact .lc (s1 := s) (f := fun i => rF n (t i)) (by simp) (by omega) fun i hi => ⟨_, rfl, rfl, by simp (disch := omega)⟩
theorem diameter (h : Tab n t) : F_diameter [tF n t] s = some (.int (mxF n fun i => mxF n (t i)), s) := by
  have n1 := h.n1
  refine R_diameter (.ret ?_)
  have := widths (s := s) h
  simp (disch := omega) [this]
/-- places -/
def wh (n : Nat) (p : Nat → Bool) : List Nat := (List.range n).filter p
theorem mem_wh {n : Nat} {p : Nat → Bool} {x : Nat} : x ∈ wh n p ↔ x < n ∧ p x = true := by simp [wh]
def pL (l : List Nat) : D := .tup (l.map fun i => .int (i : Nat))
@[simp] theorem lf_pL (l : List Nat) : (pL l).lf = true := by
  unfold pL
  rw [lf_tup]
  exact lfs_map (fun _ => rfl) l
theorem wh_congr {n : Nat} {p q : Nat → Bool} (h : ∀ i, i < n → p i = q i) : wh n p = wh n q := List.filter_congr fun i hi => h i (List.mem_range.mp hi)
theorem radius (h : Tab n t) : F_radius [tF n t] s = some (.tup [.int (mnF n fun i => mxF n (t i)), pL (wh n fun k => decide (mxF n (t k) = mnF n fun i => mxF n (t i)))], s) := by
  have n1 := h.n1
  have n8 := h.n8
  have hw := widths (s := s) h
  refine R_radius ?_
  unfold g_radius
  refine .seq (.set (d := rF n fun i => mxF n (t i)) (by simp [hw]) (by simp)) (.ret (.tup (.as_ (s1 := s) (by simp (disch := omega)) (.as1 (.call (.as1 (d := .lst ((wh n fun k => decide (mxF n (t k) = mnF n fun i => mxF n (t i))).map fun i => .int (i : Nat))) ?_) rfl))) (by simp)))
  unfold c_radius_1
  refine .lcI (s1 := s) (l := List.range n) (f := fun i => .tup [.int (i : Nat), .int (mxF n (t i))]) (F := fun i => .int (i : Nat)) (by simp; rfl) (by simp; omega) fun i hi => ⟨_, rfl, ?_, fun _ => by simp⟩
  simp (disch := omega)
/-! sums -/
/-- weights from 0 on, not all 0 -/
structure Wt (n : Nat) (w : Nat → Int) : Prop where
  nn : ∀ i, i < n → 0 ≤ w i
  ps : ∃ i, i < n ∧ 0 < w i
  hi : ∀ i, i < n → w i ≤ 1000
variable {w : Nat → Int}
theorem Wt.sum_pos (h : Wt n w) : 0 < smF n w := by
  obtain ⟨i, hi, hp⟩ := h.ps
  have := smF_le (n := n) (f := fun k => if k = i then w i else 0) (g := w) fun k hk => by
    by_cases e : k = i
    · subst e; simp
    · simp [e]; exact h.nn k hk
  rw [smF_one hi fun k _ hne => if_neg hne] at this
  simp at this
  omega
theorem Wt.sum_hi (h : Wt n w) : smF n w ≤ 1000 * n := by
  have := smF_le (n := n) (f := w) (g := fun _ => 1000) h.hi
  have e : ∀ m : Nat, smF m (fun _ => 1000) = 1000 * m := fun m => by
    induction m with
    | zero => rfl
    | succ m ih => rw [smF_succ, ih]; omega
  rw [e] at this
  exact this
theorem chkW (hn : n ≤ 1000) (h : Wt n w) : F_check_weights [.int (n : Nat), rF n w] s = some (.non, s) := by
  refine N_check_weights (δ := [.rd (.int (n : Nat)), .rd (rF n w), .no]) ?_
  unfold g_check_weights
  refine .seq (.pass (by simp)) (.pass (.or0 (s1 := s) (.bTr (.call (.as1 ?_) (any_no_F n)) rfl) ?_))
  · unfold c_check_weights_1
    refine .lc (s1 := s) (f := fun j => .int (w j)) (by simp) (by omega) fun j hj => ⟨_, rfl, rfl, ?_⟩
    have := h.nn j hj
    simp; omega
  · obtain ⟨i, hi, hp⟩ := h.ps
    have : anyF n (fun i => w i != 0) = true := anyF_iff.mpr ⟨i, hi, by simp; omega⟩
    simp [this]
theorem sums (h : Dist n t) (hw : Wt n w) : F_sums_of [tF n t, rF n w] s = some (rF n fun i => smF n fun j => w j * t i j, s) := by
  have n8 := h.n8
  refine R_sums_of ?_
  unfold g_sums_of
  have c1 := chkD (s := s) h
  have c2 := chkW (s := s) (show n ≤ 1000 by omega) hw
  refine .seq (.exp (d := .non) (by simp [c1])) (.seq (.exp (d := .non) (by simp [c2])) (.ret (.call (.as1 (d := vL n fun i => .int (smF n fun j => w j * t i j)) ?_) (by simp))))
  unfold c_sums_of_2
  refine .lc (s1 := s) (f := fun i => rF n (t i)) (by simp) (by omega) fun i hi => ⟨_, rfl, rfl, .call (.as1 (d := vL n fun j => .int (w j * t i j)) ?_) (by simp)⟩
  unfold c_sums_of_1
  refine .lc (s1 := s) (f := fun j => .tup [.int (w j), .int (t i j)]) (by simp) (by omega) fun j hj => ⟨_, rfl, rfl, ?_⟩
  have m := mul_int (i := w j) (j := t i j) (mulC_l ⟨by have := hw.nn j hj; omega, by have := hw.hi j hj; omega⟩)
  simp [m]
def smT (n : Nat) (t : Nat → Nat → Int) (w : Nat → Int) (i : Nat) : Int := smF n fun j => w j * t i j
theorem least (h : Dist n t) (hw : Wt n w) : F_least_sums [tF n t, rF n w] s = some (.tup [.int (mnF n (smT n t w)), pL (wh n fun k => decide (smT n t w k = mnF n (smT n t w)))], s) := by
  have n1 := h.n1
  have n8 := h.n8
  have hs : F_sums_of [tF n t, rF n w] s = some (rF n (smT n t w), s) := sums h hw
  refine R_least_sums ?_
  unfold g_least_sums
  refine .seq (.set (d := rF n (smT n t w)) (by simp [hs]) (by simp)) (.ret (.tup (.as_ (s1 := s) (by simp (disch := omega)) (.as1 (.call (.as1 (d := .lst ((wh n fun k => decide (smT n t w k = mnF n (smT n t w))).map fun i => .int (i : Nat))) ?_) rfl))) (by simp)))
  unfold c_least_sums_1
  refine .lcI (s1 := s) (l := List.range n) (f := fun i => .tup [.int (i : Nat), .int (smT n t w i)]) (F := fun i => .int (i : Nat)) (by simp; rfl) (by simp; omega) fun i hi => ⟨_, rfl, ?_, fun _ => by simp⟩
  simp (disch := omega)
def mnT (n : Nat) (t : Nat → Nat → Int) (w : Nat → Int) : Int := smF n fun i => w i * smT n t w i
theorem mean (h : Dist n t) (hw : Wt n w) : F_mean_of [tF n t, rF n w] s = some (fr (mnT n t w) (smF n w * smF n w), s) := by
  have n8 := h.n8
  have hs : F_sums_of [tF n t, rF n w] s = some (rF n (smT n t w), s) := sums h hw
  have p1 := hw.sum_pos
  have p2 := hw.sum_hi
  have p3 : 0 < smF n w * smF n w := Int.mul_pos p1 p1
  have p4 : smF n w * smF n w ≤ 8000 * 8000 := Int.mul_le_mul (by omega) (by omega) (by omega) (by omega)
  have m := mul_int (i := smF n w) (j := smF n w) (mulC_l ⟨by omega, by omega⟩)
  have e := frac (s := s) (a := mnT n t w) p3 (by
    have : (smF n w * smF n w).natAbs < 2 ^ 100 := by omega
    have : 2 ^ 100 ≤ 2 ^ 200 := Nat.pow_le_pow_right (by omega) (by omega)
    omega)
  refine R_mean_of ?_
  unfold g_mean_of
  refine .seq (.set (d := rF n (smT n t w)) (by simp [hs]) (by simp)) (.seq (.set (d := .int (smF n w)) (by simp) rfl) (.ret (.fn (ds := [.int (mnT n t w), .int (smF n w * smF n w)]) (s1 := s) (.as_ (s1 := s) (.call (.as1 (d := vL n fun j => .int (w j * smT n t w j)) ?_) (by simp; rfl)) (.as1 (by simp [m]))) e)))
  unfold c_mean_of_1
  refine .lc (s1 := s) (f := fun j => .tup [.int (w j), .int (smT n t w j)]) (by simp) (by omega) fun j hj => ⟨_, rfl, rfl, ?_⟩
  have m := mul_int (i := w j) (j := smT n t w j) (mulC_l ⟨by have := hw.nn j hj; omega, by have := hw.hi j hj; omega⟩)
  simp [m]
end
end PF
set_option Elab.async false
set_option linter.all false
set_option maxRecDepth 100000
set_option maxHeartbeats 400000
/-! FI: sums of distances (plain), and small helps. -/
namespace PF
open PySem PySem.Spec PyProof.Rows L2 DL
theorem mulB_l {i j : Int} (h : i.natAbs < 2 ^ 64) : dMul (.int i) (.int j) = some (.int (i * j)) := mul_int (by unfold mulC; rw [decide_eq_true h]; rfl)
theorem mulB_r {i j : Int} (h : j.natAbs < 2 ^ 64) : dMul (.int i) (.int j) = some (.int (i * j)) := mul_int (by unfold mulC; rw [decide_eq_true h, Bool.or_true]; rfl)
theorem _root_.DL.Yl.sub {i : Nat} {fk f : FE} {δ : Ev} {s s1 s2 : Src} {n : Nat} {q : Nat → D} {a : Nat} {v : D} (hd : δ[i]? = some (.ow (vL n q))) (ha : a < n) (hq : ∀ i, (q i).lf = true) (hv : v.lf = true)
    (hf : Yl (f δ s) v s1) (hk : Yl (fk δ s1) (.int (a : Nat)) s2) : Yl (sSub i fk f δ s) (.nx (δ.set i (.ow (vL n fun i => if i = a then v else q i)))) s2 := by
  unfold Yl at *
  unfold sSub
  rw [bd_ap, hf, Option.bind_some, bd_ap, hk, Option.bind_some, hd]
  show (if v.lf = true ∧ lfs (seqF n q) = true then (M.of ((ixN (seqF n q).length (a : Int)).map fun j => Out.nx (δ.set i (.ow (.lst ((seqF n q).set j v)))))) else M.no) s2 = _
  rw [if_pos ⟨hv, lfs_seqF hq⟩, seqF_len, ixN_nat2 ha, Option.map_some, of_some, seqF_set ha]; rfl
theorem _root_.DL.Yl.tg {f : FE} {g : D → Ev → Option Ev} {δ δ' : Ev} {s s1 : Src} {d : D} (h : Yl (f δ s) d s1) (hl : d.lf = true) (e : g d δ = some δ') : Yl (sTg f g δ s) (.nx δ') s1 := by
  unfold Yl at *
  rw [sTg_ap, h, Option.bind_some, if_pos hl, e]; rfl
theorem _root_.DL.Yl.eand {f g : FE} {δ : Ev} {s s1 s2 : Src} {d : D} (h : Yl (f δ s) (.bl true) s1) (h2 : Yl (g δ s1) d s2) : Yl (eAnd f g δ s) d s2 := by
  unfold Yl at *
  rw [eAnd_ap, h]; exact h2
theorem wh_one {n x : Nat} {p : Nat → Bool} (hx : x < n) (h : ∀ i, i < n → (p i = true ↔ i = x)) : wh n p = [x] := by
  have e : wh n p = (List.range n).filter fun i => decide (i = x) := wh_congr fun i hi => by
    rw [Bool.eq_iff_iff, h i hi]; simp
  rw [e]
  clear e h p
  induction n with
  | zero => omega
  | succ n ih =>
    rw [List.range_succ, List.filter_append]
    by_cases e : x = n
    · subst e
      have : (List.range x).filter (fun i => decide (i = x)) = [] := by
        rw [List.filter_eq_nil_iff]
        intro i hi
        have := List.mem_range.mp hi
        simp; omega
      rw [this]; simp
    · rw [ih (by omega)]
      simp; omega
theorem notIn_pL (x : Nat) (l : List Nat) : dNotIn (.int (x : Nat)) (pL l) = some (.bl (!decide (x ∈ l))) := by
  show (some (l.map fun i : Nat => D.int (i : Nat))).bind _ = _
  rw [Option.bind_some]
  have h1 : ((l.map fun i : Nat => D.int (i : Nat)).all flatD) = true := by
    rw [List.all_map]
    exact List.all_eq_true.mpr fun _ _ => rfl
  rw [h1]
  show some (D.bl (!inD _ _)) = _
  unfold inD
  rw [List.any_map]
  congr 3
  rw [Bool.eq_iff_iff]
  simp [eqF]
  constructor
  · rintro ⟨a, ha, e⟩
    have : a = x := by omega
    exact this ▸ ha
  · intro h
    exact ⟨x, h, by omega⟩
section
variable {n : Nat} {t u : Nat → Nat → Int} {w : Nat → Int}
theorem smF_const (n : Nat) (c : Int) (w : Nat → Int) : smF n (fun j => w j * c) = smF n w * c := by
  have := smF_mul n c w
  rw [Int.mul_comm c] at this
  rw [← this]
  exact smF_congr fun i _ => Int.mul_comm _ _
theorem smT_le (hw : Wt n w) {c : Int} {i : Nat} (h : ∀ j, j < n → t i j ≤ c) : smT n t w i ≤ smF n w * c := by
  rw [← smF_const]
  exact smF_le fun j hj => Int.mul_le_mul_of_nonneg_left (h j hj) (hw.nn j hj)
theorem smT_ge (hw : Wt n w) {c : Int} {i : Nat} (h : ∀ j, j < n → c ≤ t i j) : smF n w * c ≤ smT n t w i := by
  rw [← smF_const]
  exact smF_le fun j hj => Int.mul_le_mul_of_nonneg_left (h j hj) (hw.nn j hj)
theorem smT_gap (h : Dist n t) (hw : Wt n w) {i j : Nat} (hi : i < n) (hj : j < n) : smT n t w i ≤ smT n t w j + smF n w * t i j := by
  rw [← smF_const]
  unfold smT
  rw [← smF_add]
  refine smF_le fun k hk => ?_
  have := Int.mul_le_mul_of_nonneg_left (h.tr i k j hi hk hj) (hw.nn k hk)
  rw [Int.mul_add] at this
  omega
theorem smT_both (h : Dist n t) (hw : Wt n w) {i j : Nat} (hi : i < n) (hj : j < n) : smF n w * t i j ≤ smT n t w i + smT n t w j := by
  rw [← smF_const]
  unfold smT
  rw [← smF_add]
  refine smF_le fun k hk => ?_
  have a := h.tr i j k hi hj hk
  rw [h.sy k j hk hj] at a
  have := Int.mul_le_mul_of_nonneg_left a (hw.nn k hk)
  rw [Int.mul_add] at this
  omega
theorem smT_nn (h : Dist n t) (hw : Wt n w) {i : Nat} (hi : i < n) : 0 ≤ smT n t w i := smF_nn fun j hj => Int.mul_nonneg (hw.nn j hj) (h.lo i j hi hj)
theorem mnT_ge (hw : Wt n w) : mnF n (smT n t w) * smF n w ≤ mnT n t w := by
  rw [Int.mul_comm, ← smF_const]
  exact smF_le fun i hi => Int.mul_le_mul_of_nonneg_left (mnF_le hi) (hw.nn i hi)
theorem mnT_le (hw : Wt n w) {c : Int} (h : ∀ i, i < n → smT n t w i ≤ c) : mnT n t w ≤ smF n w * c := by
  rw [← smF_const]
  exact smF_le fun i hi => Int.mul_le_mul_of_nonneg_left (h i hi) (hw.nn i hi)
/-- the mean is at most twice the least sum -/
theorem mnT_two (h : Dist n t) (hw : Wt n w) (h1 : 0 < n) : mnT n t w ≤ 2 * mnF n (smT n t w) * smF n w := by
  obtain ⟨k, hk, e⟩ := mnF_in (smT n t w) h1
  have e1 : ∀ i, i < n → smT n t w i ≤ smT n t w k + smF n w * t i k := fun i hi => smT_gap h hw hi hk
  have e2 : mnT n t w ≤ smF n (fun i => w i * (smT n t w k + smF n w * t i k)) := smF_le fun i hi => Int.mul_le_mul_of_nonneg_left (e1 i hi) (hw.nn i hi)
  have e3 : smF n (fun i => w i * (smT n t w k + smF n w * t i k)) = smF n w * smT n t w k + smF n w * smT n t w k := by
    rw [smF_congr (g := fun i => w i * smT n t w k + smF n w * (w i * t k i)) fun i hi => by
      rw [Int.mul_add, h.sy i k hi hk, Int.mul_left_comm], smF_add, smF_const, smF_mul]; rfl
  rw [e3, e] at e2
  rw [Int.mul_assoc, Int.mul_comm (mnF n (smT n t w)), Int.two_mul]
  exact e2
theorem smT_add (i : Nat) : smT n (fun i j => t i j + u i j) w i = smT n t w i + smT n u w i := by
  unfold smT
  rw [← smF_add]
  exact smF_congr fun j _ => Int.mul_add _ _ _
theorem mnT_add : mnT n (fun i j => t i j + u i j) w = mnT n t w + mnT n u w := by
  unfold mnT
  rw [← smF_add]
  exact smF_congr fun j _ => by rw [smT_add, Int.mul_add]
theorem mnF_eq {n : Nat} {f : Nat → Int} {c : Int} {k : Nat} (hk : k < n) (e : f k = c) (h : ∀ i, i < n → c ≤ f i) : mnF n f = c := by
  obtain ⟨i, hi, e2⟩ := mnF_in f (show 0 < n by omega)
  have := mnF_le (f := f) hk
  have := h i hi
  omega
theorem mxF_eq {n : Nat} {f : Nat → Int} {c : Int} {k : Nat} (hk : k < n) (e : f k = c) (h : ∀ i, i < n → f i ≤ c) : mxF n f = c := by
  obtain ⟨i, hi, e2⟩ := mxF_in f (show 0 < n by omega)
  have := mxF_le (f := f) hk
  have := h i hi
  omega
theorem dist_add (h : Dist n t) (k : Dist n u) (hb : ∀ i j, i < n → j < n → t i j + u i j ≤ 1000) : Dist n (fun i j => t i j + u i j) := ⟨⟨h.n1, h.n8, fun i j hi hj => Int.add_nonneg (h.lo i j hi hj) (k.lo i j hi hj), hb, fun i hi => by
    show t i i + u i i = 0
    rw [h.dg i hi, k.dg i hi]; rfl, fun i j hi hj => by
    show t i j + u i j = t j i + u j i
    rw [h.sy i j hi hj, k.sy i j hi hj]⟩, fun i j hi hj hij => by
    have := h.ps i j hi hj hij
    have := k.ps i j hi hj hij
    show 0 < t i j + u i j
    omega, fun i j m hi hj hm => by
    have := h.tr i j m hi hj hm
    have := k.tr i j m hi hj hm
    show t i j + u i j ≤ t i m + u i m + (t m j + u m j)
    omega⟩
end
end PF
set_option Elab.async false
set_option linter.all false
set_option maxRecDepth 100000
set_option maxHeartbeats 4000000
/-! PB: printed by gen2.py -/
namespace PF
open PySem PySem.Spec PyProof.Rows L2 DL
/-! check_row -/
def c_check_row_glues_1 : FE := (eLc (iSeq (eVar 1)) [2] (gN 2) bYes (eOr (eNot (eFn (fun ds => if ds.length = 1 then F_is_integer ds else M.no) (eAs (eVar 2) eAs0))) (eNot (eCh dLt dLe (eC (.int 0)) (eVar 2) (eC (.int 1000))))))
def g_check_row_glues : FS := (sSeq (sIf (bOr (bNot (bTr (e1 (isiD "tuple") (eVar 1)))) (bOf (e2 dNe (eCall bLen (eAs (eVar 1) eAs0)) (eCall bLen (eAs (eVar 0) eAs0))))) sNo sNil)
  (sIf (bTr (eCall bAny (eAs c_check_row_glues_1 eAs0))) sNo sNil))
def F_check_row_glues : List D → M D := run 3 g_check_row_glues
theorem R_check_row_glues {a0 a1 d : D} {s s1 : Src} (h : Yl (g_check_row_glues [.rd a0, .rd a1, .no] s) (.rt d) s1) : Yl (F_check_row_glues [a0, a1] s) d s1 := run_rt h
theorem N_check_row_glues {a0 a1 : D} {δ : Ev} {s s1 : Src} (h : Yl (g_check_row_glues [.rd a0, .rd a1, .no] s) (.nx δ) s1) : Yl (F_check_row_glues [a0, a1] s) .non s1 := run_nx h
/-! check_row_spans -/
def c_check_row_spans_1 : FE := (eLc (iSeq (eVar 1)) [2] (gN 2) bYes (eOr (eNot (eFn (fun ds => if ds.length = 1 then F_is_integer ds else M.no) (eAs (eVar 2) eAs0))) (e2 dLt (eVar 2) (eC (.int 0)))))
def g_check_row_spans : FS := (sIf (bOr (bNot (bTr (e1 (isiD "tuple") (eVar 1)))) (bOr (bOf (e2 dNe (eCall bLen (eAs (eVar 1) eAs0)) (eCall bLen (eAs (eVar 0) eAs0)))) (bTr (eCall bAny (eAs c_check_row_spans_1 eAs0))))) sNo sNil)
def F_check_row_spans : List D → M D := run 3 g_check_row_spans
theorem R_check_row_spans {a0 a1 d : D} {s s1 : Src} (h : Yl (g_check_row_spans [.rd a0, .rd a1, .no] s) (.rt d) s1) : Yl (F_check_row_spans [a0, a1] s) d s1 := run_rt h
theorem N_check_row_spans {a0 a1 : D} {δ : Ev} {s s1 : Src} (h : Yl (g_check_row_spans [.rd a0, .rd a1, .no] s) (.nx δ) s1) : Yl (F_check_row_spans [a0, a1] s) .non s1 := run_nx h
/-! is_short -/
def c_is_short_1 : FE := (eLc (iSeq (eFn (fun ds => if ds.length = 2 then F_choices ds else M.no) (eAs (eCall bLen (eAs (eVar 0) eAs0)) (eAs (eC (.int 2)) eAs0)))) [2, 3] (gT 2 (gsC (gN 2) (gsC (gN 3) gs0))) bYes (e2 dLt (e2 dAdd (e2 dIx (eVar 1) (eVar 2)) (e2 dIx (eVar 1) (eVar 3))) (e2 dIx (e2 dIx (eVar 0) (eVar 2)) (eVar 3))))
def g_is_short : FS := (sRet (eCall bAny (eAs c_is_short_1 eAs0)))
def F_is_short : List D → M D := run 4 g_is_short
theorem R_is_short {a0 a1 d : D} {s s1 : Src} (h : Yl (g_is_short [.rd a0, .rd a1, .no, .no] s) (.rt d) s1) : Yl (F_is_short [a0, a1] s) d s1 := run_rt h
theorem N_is_short {a0 a1 : D} {δ : Ev} {s s1 : Src} (h : Yl (g_is_short [.rd a0, .rd a1, .no, .no] s) (.nx δ) s1) : Yl (F_is_short [a0, a1] s) .non s1 := run_nx h
/-! lowered -/
def c_lowered_1 : FE := (eLc (iOf rg1 (eAs (eCall bLen (eAs (eVar 0) eAs0)) eAs0)) [4] (gN 4) (bOf (e2 dNe (eVar 4) (eVar 3))) (e2 dSub (e2 dIx (e2 dIx (eVar 0) (eVar 3)) (eVar 4)) (e2 dIx (eVar 2) (eVar 4))))
def b_lowered_2 : FS := (sSub 2 (eVar 3) (eCall bMaxS (eAs (e2 dAdd (eLst (eAs (eC (.int 0)) eAs0)) c_lowered_1) eAs0)))
def g_lowered : FS := (sSeq (sExp (eFn (fun ds => if ds.length = 1 then F_check_distances ds else M.no) (eAs (eVar 0) eAs0)))
  (sSeq (sExp (eFn (fun ds => if ds.length = 2 then F_check_row_spans ds else M.no) (eAs (eVar 0) (eAs (eVar 1) eAs0))))
  (sSeq (sIf (bTr (eFn (fun ds => if ds.length = 2 then F_is_short ds else M.no) (eAs (eVar 0) (eAs (eVar 1) eAs0)))) sNo sNil)
  (sSeq (sOwn 2 (eCall bListF (eAs (eVar 1) eAs0)))
  (sSeq (sFor (iOf rg1 (eAs (eCall bLen (eAs (eVar 0) eAs0)) eAs0)) (gN 3) b_lowered_2)
  (sRet (eCall bTup (eAs (eVar 2) eAs0))))))))
def F_lowered : List D → M D := run 5 g_lowered
theorem R_lowered {a0 a1 d : D} {s s1 : Src} (h : Yl (g_lowered [.rd a0, .rd a1, .no, .no, .no] s) (.rt d) s1) : Yl (F_lowered [a0, a1] s) d s1 := run_rt h
theorem N_lowered {a0 a1 : D} {δ : Ev} {s s1 : Src} (h : Yl (g_lowered [.rd a0, .rd a1, .no, .no, .no] s) (.nx δ) s1) : Yl (F_lowered [a0, a1] s) .non s1 := run_nx h
/-! greatest_gap -/
def c_greatest_gap_1 : FE := (eLc (iOf zp2 (eAs (eVar 0) (eAs (eVar 1) eAs0))) [2, 3] (gT 2 (gsC (gN 2) (gsC (gN 3) gs0))) bYes (eCall bAbs (eAs (e2 dSub (eVar 2) (eVar 3)) eAs0)))
def g_greatest_gap : FS := (sRet (eCall bMaxS (eAs c_greatest_gap_1 eAs0)))
def F_greatest_gap : List D → M D := run 4 g_greatest_gap
theorem R_greatest_gap {a0 a1 d : D} {s s1 : Src} (h : Yl (g_greatest_gap [.rd a0, .rd a1, .no, .no] s) (.rt d) s1) : Yl (F_greatest_gap [a0, a1] s) d s1 := run_rt h
theorem N_greatest_gap {a0 a1 : D} {δ : Ev} {s s1 : Src} (h : Yl (g_greatest_gap [.rd a0, .rd a1, .no, .no] s) (.nx δ) s1) : Yl (F_greatest_gap [a0, a1] s) .non s1 := run_nx h
/-! more_paper -/
def b_more_paper_1 : FS := (sSeq (sIf (bOf (e2 dLt (e2 dAdd (e2 dIx (eVar 1) (eVar 2)) (e2 dIx (eVar 1) (eVar 3))) (e2 dIx (e2 dIx (eVar 0) (eVar 2)) (eVar 3)))) (sRet (eTup (eAs (eC (.str "sum")) (eAs (eVar 2) (eAs (eVar 3) eAs0))))) sNil)
  (sIf (bOf (e2 dGt (eCall bAbs (eAs (e2 dSub (e2 dIx (eVar 1) (eVar 2)) (e2 dIx (eVar 1) (eVar 3))) eAs0)) (e2 dIx (e2 dIx (eVar 0) (eVar 2)) (eVar 3)))) (sRet (eTup (eAs (eC (.str "gap")) (eAs (eVar 2) (eAs (eVar 3) eAs0))))) sNil))
def g_more_paper : FS := (sSeq (sExp (eFn (fun ds => if ds.length = 1 then F_check_distances ds else M.no) (eAs (eVar 0) eAs0)))
  (sSeq (sExp (eFn (fun ds => if ds.length = 2 then F_check_row_glues ds else M.no) (eAs (eVar 0) (eAs (eVar 1) eAs0))))
  (sSeq (sForN (iSeq (eFn (fun ds => if ds.length = 2 then F_choices ds else M.no) (eAs (eCall bLen (eAs (eVar 0) eAs0)) (eAs (eC (.int 2)) eAs0)))) (gT 2 (gsC (gN 2) (gsC (gN 3) gs0))) b_more_paper_1)
  (sRet (eTup (eAs (eC (.str "fits")) eAs0))))))
def F_more_paper : List D → M D := run 4 g_more_paper
theorem R_more_paper {a0 a1 d : D} {s s1 : Src} (h : Yl (g_more_paper [.rd a0, .rd a1, .no, .no] s) (.rt d) s1) : Yl (F_more_paper [a0, a1] s) d s1 := run_rt h
theorem N_more_paper {a0 a1 : D} {δ : Ev} {s s1 : Src} (h : Yl (g_more_paper [.rd a0, .rd a1, .no, .no] s) (.nx δ) s1) : Yl (F_more_paper [a0, a1] s) .non s1 := run_nx h
/-! with_point -/
def c_with_point_1 : FE := (eLc (iOf en1 (eAs (eVar 0) eAs0)) [2, 3] (gT 2 (gsC (gN 2) (gsC (gN 3) gs0))) bYes (e2 dAdd (eVar 3) (eTup (eAs (e2 dIx (eVar 1) (eVar 2)) eAs0))))
def g_with_point : FS := (sSeq (sIf (bOf (e2 dNe (eFn (fun ds => if ds.length = 2 then F_more_paper ds else M.no) (eAs (eVar 0) (eAs (eVar 1) eAs0))) (eTup (eAs (eC (.str "fits")) eAs0)))) sNo sNil)
  (sRet (e2 dAdd (eCall bTup (eAs c_with_point_1 eAs0)) (eTup (eAs (e2 dAdd (eVar 1) (eTup (eAs (eC (.int 0)) eAs0))) eAs0)))))
def F_with_point : List D → M D := run 4 g_with_point
theorem R_with_point {a0 a1 d : D} {s s1 : Src} (h : Yl (g_with_point [.rd a0, .rd a1, .no, .no] s) (.rt d) s1) : Yl (F_with_point [a0, a1] s) d s1 := run_rt h
theorem N_with_point {a0 a1 : D} {δ : Ev} {s s1 : Src} (h : Yl (g_with_point [.rd a0, .rd a1, .no, .no] s) (.nx δ) s1) : Yl (F_with_point [a0, a1] s) .non s1 := run_nx h
/-! check_shared -/
def c_check_shared_1 : FE := (eLc2 (iOf rg1 (eAs (eVar 2) eAs0)) [3, 4] (gN 3) bYes (iOf rg1 (eAs (eVar 2) eAs0)) [4] (gN 4) bYes (e2 dNe (e2 dIx (e2 dIx (eVar 0) (eVar 3)) (eVar 4)) (e2 dIx (e2 dIx (eVar 1) (eVar 3)) (eVar 4))))
def g_check_shared : FS := (sSeq (sExp (eFn (fun ds => if ds.length = 1 then F_check_distances ds else M.no) (eAs (eVar 0) eAs0)))
  (sSeq (sExp (eFn (fun ds => if ds.length = 1 then F_check_distances ds else M.no) (eAs (eVar 1) eAs0)))
  (sSeq (sIf (bOr (bNot (bTr (eFn (fun ds => if ds.length = 1 then F_is_integer ds else M.no) (eAs (eVar 2) eAs0)))) (bNot (bOf (eCh dLe dLe (eC (.int 1)) (eVar 2) (eCall bMin2 (eAs (eCall bLen (eAs (eVar 0) eAs0)) (eAs (eCall bLen (eAs (eVar 1) eAs0)) eAs0))))))) sNo sNil)
  (sSeq (sIf (bTr (eCall bAny (eAs c_check_shared_1 eAs0))) sNo sNil)
  (sIf (bOf (e2 dGt (e2 dSub (e2 dAdd (eCall bLen (eAs (eVar 0) eAs0)) (eCall bLen (eAs (eVar 1) eAs0))) (eVar 2)) (eC (.int 8)))) sNo sNil)))))
def F_check_shared : List D → M D := run 5 g_check_shared
theorem R_check_shared {a0 a1 a2 d : D} {s s1 : Src} (h : Yl (g_check_shared [.rd a0, .rd a1, .rd a2, .no, .no] s) (.rt d) s1) : Yl (F_check_shared [a0, a1, a2] s) d s1 := run_rt h
theorem N_check_shared {a0 a1 a2 : D} {δ : Ev} {s s1 : Src} (h : Yl (g_check_shared [.rd a0, .rd a1, .rd a2, .no, .no] s) (.nx δ) s1) : Yl (F_check_shared [a0, a1, a2] s) .non s1 := run_nx h
/-! step -/
def c_step_1 : FE := (eLc (iOf rg1 (eAs (eVar 2) eAs0)) [5] (gN 5) bYes (e2 dAdd (e2 dIx (e2 dIx (eVar 0) (eVar 3)) (eVar 5)) (e2 dIx (e2 dIx (eVar 1) (eVar 5)) (eVar 4))))
def g_step : FS := (sRet (eCall bMinS (eAs c_step_1 eAs0)))
def F_step : List D → M D := run 6 g_step
theorem R_step {a0 a1 a2 a3 a4 d : D} {s s1 : Src} (h : Yl (g_step [.rd a0, .rd a1, .rd a2, .rd a3, .rd a4, .no] s) (.rt d) s1) : Yl (F_step [a0, a1, a2, a3, a4] s) d s1 := run_rt h
theorem N_step {a0 a1 a2 a3 a4 : D} {δ : Ev} {s s1 : Src} (h : Yl (g_step [.rd a0, .rd a1, .rd a2, .rd a3, .rd a4, .no] s) (.nx δ) s1) : Yl (F_step [a0, a1, a2, a3, a4] s) .non s1 := run_nx h
/-! glued -/
def c_glued_1 : FE := (eLc (iSeq (eVar 0)) [7] (gN 7) bYes (eCall bListF (eAs (eVar 7) eAs0)))
def c_glued_2 : FE := (eLc (iOf rg2 (eAs (eVar 2) (eAs (eCall bLen (eAs (eVar 1) eAs0)) eAs0))) [6] (gN 6) bYes (eFn (fun ds => if ds.length = 5 then F_step ds else M.no) (eAs (eVar 0) (eAs (eVar 1) (eAs (eVar 2) (eAs (eVar 5) (eAs (eVar 6) eAs0)))))))
def b_glued_3 : FS := (sExt 4 (eVar 5) c_glued_2)
def c_glued_4 : FE := (eLc (iOf rg1 (eAs (eVar 3) eAs0)) [5] (gN 5) bYes (eFn (fun ds => if ds.length = 5 then F_step ds else M.no) (eAs (eVar 0) (eAs (eVar 1) (eAs (eVar 2) (eAs (eVar 5) (eAs (eVar 6) eAs0)))))))
def b_glued_5 : FS := (sAppF 4 (e2 catF c_glued_4 (eCall bList (eAs (eSl (e2 dIx (eVar 1) (eVar 6)) (fSo (eVar 2)) fNo) eAs0))))
def c_glued_6 : FE := (eLc (iSeq (eVar 4)) [7] (gN 7) bYes (eCall bTup (eAs (eVar 7) eAs0)))
def g_glued : FS := (sSeq (sExp (eFn (fun ds => if ds.length = 3 then F_check_shared ds else M.no) (eAs (eVar 0) (eAs (eVar 1) (eAs (eVar 2) eAs0)))))
  (sSeq (sSet 3 (eCall bLen (eAs (eVar 0) eAs0)))
  (sSeq (sOwn 4 c_glued_1)
  (sSeq (sFor (iOf rg1 (eAs (eVar 3) eAs0)) (gN 5) b_glued_3)
  (sSeq (sFor (iOf rg2 (eAs (eVar 2) (eAs (eCall bLen (eAs (eVar 1) eAs0)) eAs0))) (gN 6) b_glued_5)
  (sRet (eCall bTup (eAs c_glued_6 eAs0))))))))
def F_glued : List D → M D := run 8 g_glued
theorem R_glued {a0 a1 a2 d : D} {s s1 : Src} (h : Yl (g_glued [.rd a0, .rd a1, .rd a2, .no, .no, .no, .no, .no] s) (.rt d) s1) : Yl (F_glued [a0, a1, a2] s) d s1 := run_rt h
theorem N_glued {a0 a1 a2 : D} {δ : Ev} {s s1 : Src} (h : Yl (g_glued [.rd a0, .rd a1, .rd a2, .no, .no, .no, .no, .no] s) (.nx δ) s1) : Yl (F_glued [a0, a1, a2] s) .non s1 := run_nx h
/-! gap -/
def c_gap_1 : FE := (eLc (iOf rg1 (eAs (eVar 2) eAs0)) [5] (gN 5) bYes (eCall bAbs (eAs (e2 dSub (e2 dIx (e2 dIx (eVar 0) (eVar 3)) (eVar 5)) (e2 dIx (e2 dIx (eVar 1) (eVar 5)) (eVar 4))) eAs0)))
def g_gap : FS := (sRet (eCall bMaxS (eAs c_gap_1 eAs0)))
def F_gap : List D → M D := run 6 g_gap
theorem R_gap {a0 a1 a2 a3 a4 d : D} {s s1 : Src} (h : Yl (g_gap [.rd a0, .rd a1, .rd a2, .rd a3, .rd a4, .no] s) (.rt d) s1) : Yl (F_gap [a0, a1, a2, a3, a4] s) d s1 := run_rt h
theorem N_gap {a0 a1 a2 a3 a4 : D} {δ : Ev} {s s1 : Src} (h : Yl (g_gap [.rd a0, .rd a1, .rd a2, .rd a3, .rd a4, .no] s) (.nx δ) s1) : Yl (F_gap [a0, a1, a2, a3, a4] s) .non s1 := run_nx h
/-! least_glued -/
def c_least_glued_1 : FE := (eLc (iSeq (eVar 0)) [7] (gN 7) bYes (eCall bListF (eAs (eVar 7) eAs0)))
def c_least_glued_2 : FE := (eLc (iOf rg2 (eAs (eVar 2) (eAs (eCall bLen (eAs (eVar 1) eAs0)) eAs0))) [6] (gN 6) bYes (eFn (fun ds => if ds.length = 5 then F_gap ds else M.no) (eAs (eVar 0) (eAs (eVar 1) (eAs (eVar 2) (eAs (eVar 5) (eAs (eVar 6) eAs0)))))))
def b_least_glued_3 : FS := (sExt 4 (eVar 5) c_least_glued_2)
def c_least_glued_4 : FE := (eLc (iOf rg1 (eAs (eVar 3) eAs0)) [5] (gN 5) bYes (eFn (fun ds => if ds.length = 5 then F_gap ds else M.no) (eAs (eVar 0) (eAs (eVar 1) (eAs (eVar 2) (eAs (eVar 5) (eAs (eVar 6) eAs0)))))))
def b_least_glued_5 : FS := (sAppF 4 (e2 catF c_least_glued_4 (eCall bList (eAs (eSl (e2 dIx (eVar 1) (eVar 6)) (fSo (eVar 2)) fNo) eAs0))))
def c_least_glued_6 : FE := (eLc (iSeq (eVar 4)) [7] (gN 7) bYes (eCall bTup (eAs (eVar 7) eAs0)))
def g_least_glued : FS := (sSeq (sExp (eFn (fun ds => if ds.length = 3 then F_check_shared ds else M.no) (eAs (eVar 0) (eAs (eVar 1) (eAs (eVar 2) eAs0)))))
  (sSeq (sSet 3 (eCall bLen (eAs (eVar 0) eAs0)))
  (sSeq (sOwn 4 c_least_glued_1)
  (sSeq (sFor (iOf rg1 (eAs (eVar 3) eAs0)) (gN 5) b_least_glued_3)
  (sSeq (sFor (iOf rg2 (eAs (eVar 2) (eAs (eCall bLen (eAs (eVar 1) eAs0)) eAs0))) (gN 6) b_least_glued_5)
  (sRet (eCall bTup (eAs c_least_glued_6 eAs0))))))))
def F_least_glued : List D → M D := run 8 g_least_glued
theorem R_least_glued {a0 a1 a2 d : D} {s s1 : Src} (h : Yl (g_least_glued [.rd a0, .rd a1, .rd a2, .no, .no, .no, .no, .no] s) (.rt d) s1) : Yl (F_least_glued [a0, a1, a2] s) d s1 := run_rt h
theorem N_least_glued {a0 a1 a2 : D} {δ : Ev} {s s1 : Src} (h : Yl (g_least_glued [.rd a0, .rd a1, .rd a2, .no, .no, .no, .no, .no] s) (.nx δ) s1) : Yl (F_least_glued [a0, a1, a2] s) .non s1 := run_nx h
end PF
set_option Elab.async false
set_option linter.all false
set_option maxRecDepth 100000
set_option maxHeartbeats 400000
/-! GA: rows, one point more, tables put together. -/
namespace PF
open PySem PySem.Spec PyProof.Rows L2 DL
section
variable {h h1 : FI} {vs vs1 : List Nat} {g g1 : D → Ev → Option Ev} {tt tt1 : Ev → M Bool} {te : FE} {δ : Ev} {s : Src}
theorem _root_.DL.Yl.inlc {m : Nat} {f F : Nat → D} (e1 : Yl (h δ s) (seqF m f) s) (hm : m ≤ 1000) (hb : ∀ i, i < m → ∃ δ1, g (f i) (wipeE δ vs) = some δ1 ∧ Yl (tt δ1 s) true s ∧ Yl (te δ1 s) (F i) s) : Yl (inLc h vs g tt te δ s) (seqF m F) s :=
  inLc_eq (s1 := s) (ds := seqF m f) e1 (by rw [seqF_len]; exact hm) (cLp_map f F (List.range m) fun i hi => hb i (List.mem_range.mp hi))
theorem _root_.DL.Yl.lc2 {n : Nat} {f : Nat → D} {L : Nat → List D} (e1 : Yl (h δ s) (seqF n f) s) (hn : n ≤ 1000) (hb : ∀ i, i < n → ∃ δ1, g (f i) (wipeE δ vs) = some δ1 ∧ Yl (tt δ1 s) true s ∧ Yl (inLc h1 vs1 g1 tt1 te δ1 s) (L i) s) :
    Yl (eLc2 h vs g tt h1 vs1 g1 tt1 te δ s) (.lst ((List.range n).flatMap L)) s :=
  lc2_eq (s1 := s) (ds := seqF n f) e1 (by rw [seqF_len]; exact hn) (cLp2_map f L (List.range n) fun i hi => hb i (List.mem_range.mp hi))
end
theorem any_allno : ∀ (l : List D), (∀ d ∈ l, d = .bl false) → bAny [.lst l] = some (.bl false) := fun l hl => by
  have : l = (List.range l.length).map fun _ => D.bl false := by
    refine List.ext_getElem? fun i => ?_
    by_cases hi : i < l.length
    · rw [List.getElem?_map, List.getElem?_range hi, List.getElem?_eq_getElem hi, hl _ (List.getElem_mem hi)]; rfl
    · rw [List.getElem?_eq_none (by omega), List.getElem?_eq_none (by simp; omega)]
  rw [this]
  exact any_no_F _
section
variable {n : Nat} {t : Nat → Nat → Int} {r q : Nat → Int} {s : Src}
theorem chkRS (hn : n ≤ 1000) (h : ∀ i, i < n → 0 ≤ r i) : F_check_row_spans [tF n t, rF n r] s = some (.non, s) := by
  refine N_check_row_spans (δ := [.rd (tF n t), .rd (rF n r), .no]) ?_
  unfold g_check_row_spans
  refine .pass (.or0 (s1 := s) (by simp) (.or0 (s1 := s) (by simp) (.bTr (.call (.as1 ?_) (any_no_F n)) rfl)))
  unfold c_check_row_spans_1
  refine .lc (s1 := s) (f := fun j => .int (r j)) (by simp) (by omega) fun j hj => ⟨_, rfl, rfl, ?_⟩
  have := h j hj
  simp; omega
theorem chkRG (hn : n ≤ 1000) (h : ∀ i, i < n → 0 < r i ∧ r i ≤ 1000) : F_check_row_glues [tF n t, rF n r] s = some (.non, s) := by
  refine N_check_row_glues (δ := [.rd (tF n t), .rd (rF n r), .no]) ?_
  unfold g_check_row_glues
  refine .seq (.pass (by simp)) (.pass (.bTr (.call (.as1 ?_) (any_no_F n)) rfl))
  unfold c_check_row_glues_1
  refine .lc (s1 := s) (f := fun j => .int (r j)) (by simp) (by omega) fun j hj => ⟨_, rfl, rfl, ?_⟩
  have := h j hj
  simp [this]
def gapF (n : Nat) (r q : Nat → Int) : Int := mxF n fun i => ((r i - q i).natAbs : Nat)
theorem ggap (h1 : 0 < n) (hn : n ≤ 1000) : F_greatest_gap [rF n r, rF n q] s = some (.int (gapF n r q), s) := by
  refine R_greatest_gap (.ret (.call (.as1 (d := vL n fun i => .int ((r i - q i).natAbs : Nat)) ?_) (max_L h1)))
  unfold c_greatest_gap_1
  exact .lc (s1 := s) (f := fun i => .tup [.int (r i), .int (q i)]) (by simp) (by omega) fun i hi => ⟨_, rfl, rfl, by simp⟩
/-- a row that can be the distances of one more point -/
structure Fit (n : Nat) (t : Nat → Nat → Int) (r : Nat → Int) : Prop where
  ps : ∀ i, i < n → 0 < r i ∧ r i ≤ 1000
  sm : ∀ i j, i < n → j < n → i ≠ j → t i j ≤ r i + r j
  gp : ∀ i j, i < n → j < n → i ≠ j → r i ≤ r j + t i j
theorem okFits : PyData.strOk "fits" = true := by decide +kernel
theorem more (h : Dist n t) (hf : Fit n t r) : F_more_paper [tF n t, rF n r] s = some (.tup [.str "fits"], s) := by
  have n1 := h.n1
  have n8 := h.n8
  have ec := fun s => choi (n := n) (s := s) (by omega)
  have cd := fun s => chkD (s := s) h
  have cr := fun s => chkRG (t := t) (s := s) (show n ≤ 1000 by omega) hf.ps
  refine R_more_paper ?_
  unfold g_more_paper
  refine .seq (.exp (d := .non) (by simp [cd])) (.seq (.exp (d := .non) (by simp [cr])) (.then_ (P := fun δ s' => ∃ A B : Sl, δ = [.rd (tF n t), .rd (rF n r), A, B] ∧ s' = s) ?_ fun δ s' ⟨A, B, e, es⟩ => by subst e es; exact .ret (by simp)))
  refine Yl.forNK (l := prs n) (f := enP) (s1 := s) _ (by simp [ec]) rfl ⟨_, _, rfl, rfl⟩ ?_
  rintro p δ s' hp ⟨A, B, rfl, rfl⟩
  obtain ⟨h1, h2⟩ := mem_prs.mp hp
  have a1 := hf.sm p.1 p.2 (by omega) h2 (by omega)
  have a2 := hf.gp p.1 p.2 (by omega) h2 (by omega)
  have a3 := hf.gp p.2 p.1 h2 (by omega) (by omega)
  have a4 := h.sy p.1 p.2 (by omega) h2
  refine ⟨by simp [enP], _, rfl, ?_⟩
  unfold b_more_paper_1
  refine .mk (.seq (.pass (by simp (disch := omega); omega)) (.pass (.bOf ?_))) ⟨_, _, rfl, rfl⟩
  simp (disch := omega)
  omega
def wide (n : Nat) (t : Nat → Nat → Int) (r : Nat → Int) : Nat → Nat → Int := fun i j => if i < n then (if j < n then t i j else r i) else if j < n then r j else 0
theorem wpoint (h : Dist n t) (hf : Fit n t r) : F_with_point [tF n t, rF n r] s = some (tF (n + 1) (wide n t r), s) := by
  have n8 := h.n8
  have m := more (s := s) h hf
  refine R_with_point ?_
  unfold g_with_point
  refine .seq (.pass (by simp [m, ne_s1_self okFits])) (.ret (.e2 (s1 := s) (a := vT n fun i => vT (n + 1) fun j => .int (wide n t r i j)) (b := .tup [vT (n + 1) fun j => .int (wide n t r n j)]) (.call (.as1 (d := vL n fun i => vT (n + 1) fun j => .int (wide n t r i j)) ?_) (by simp)) (.tup (ds := [vT (n + 1) fun j => .int (wide n t r n j)]) (.as1 ?_) (by simp)) ?_))
  · unfold c_with_point_1
    refine .lc (s1 := s) (f := fun i => .tup [.int (i : Nat), rF n (t i)]) (by simp) (by omega) fun i hi => ⟨_, rfl, rfl, ?_⟩
    have ea := add_F1 (n := n) (f := fun j => .int (t i j)) (x := .int (r i)) (by omega)
    have ew : (vT (n + 1) fun j => if j < n then D.int (t i j) else .int (r i)) = vT (n + 1) fun j => .int (wide n t r i j) := vT_congr fun j _ => by
      unfold wide
      rw [if_pos hi]
      split <;> rfl
    rw [ew] at ea
    simp (disch := omega) [ea]
  · have ea := add_F1 (n := n) (f := fun j => .int (r j)) (x := .int 0) (by omega)
    have ew : (vT (n + 1) fun j => if j < n then D.int (r j) else .int 0) = vT (n + 1) fun j => .int (wide n t r n j) := vT_congr fun j _ => by
      unfold wide
      rw [if_neg (Nat.lt_irrefl n)]
      split <;> rfl
    rw [ew] at ea
    simp [ea]
  · rw [add_F1 (by omega)]
    congr 1
    refine vT_congr fun i hi => ?_
    by_cases e : i < n
    · rw [if_pos e]
    · have : i = n := by omega
      subst this
      rw [if_neg e]
theorem wide_dist (h : Dist n t) (hf : Fit n t r) (h8 : n < 8) : Dist (n + 1) (wide n t r) := by
  have w1 : ∀ i j, i < n → j < n → wide n t r i j = t i j := fun i j hi hj => by simp [wide, hi, hj]
  have w2 : ∀ i, i < n → wide n t r i n = r i := fun i hi => by simp [wide, hi]
  have w3 : ∀ j, j < n → wide n t r n j = r j := fun j hj => by simp [wide, hj]
  have w4 : wide n t r n n = 0 := by simp [wide]
  have cs : ∀ i, i < n + 1 → i < n ∨ i = n := fun i hi => by omega
  refine ⟨⟨by omega, by omega, fun i j hi hj => ?_, fun i j hi hj => ?_, fun i hi => ?_, fun i j hi hj => ?_⟩, fun i j hi hj hij => ?_, fun i j k hi hj hk => ?_⟩
  · rcases cs i hi with hi | rfl <;> rcases cs j hj with hj | rfl
    · rw [w1 i j hi hj]; exact h.lo i j hi hj
    · rw [w2 i hi]; have := hf.ps i hi; omega
    · rw [w3 j hj]; have := hf.ps j hj; omega
    · rw [w4]; omega
  · rcases cs i hi with hi | rfl <;> rcases cs j hj with hj | rfl
    · rw [w1 i j hi hj]; exact h.hi i j hi hj
    · rw [w2 i hi]; have := hf.ps i hi; omega
    · rw [w3 j hj]; have := hf.ps j hj; omega
    · rw [w4]; omega
  · rcases cs i hi with hi | rfl
    · rw [w1 i i hi hi]; exact h.dg i hi
    · exact w4
  · rcases cs i hi with hi | rfl <;> rcases cs j hj with hj | rfl
    · rw [w1 i j hi hj, w1 j i hj hi]; exact h.sy i j hi hj
    · rw [w2 i hi, w3 i hi]
    · rw [w3 j hj, w2 j hj]
    · rfl
  · rcases cs i hi with hi | rfl <;> rcases cs j hj with hj | rfl
    · rw [w1 i j hi hj]; exact h.ps i j hi hj hij
    · rw [w2 i hi]; exact (hf.ps i hi).1
    · rw [w3 j hj]; exact (hf.ps j hj).1
    · exact absurd rfl hij
  · have sm : ∀ i j, i < n → j < n → t i j ≤ r i + r j := fun i j hi hj => by
      by_cases e : i = j
      · subst e; rw [h.dg i hi]; have := hf.ps i hi; omega
      · exact hf.sm i j hi hj e
    have gp : ∀ i j, i < n → j < n → r i ≤ r j + t i j := fun i j hi hj => by
      by_cases e : i = j
      · subst e; rw [h.dg i hi]; omega
      · exact hf.gp i j hi hj e
    rcases cs i hi with hi | rfl <;> rcases cs j hj with hj | rfl <;> rcases cs k hk with hk | rfl
    · rw [w1 i j hi hj, w1 i k hi hk, w1 k j hk hj]; exact h.tr i j k hi hj hk
    · rw [w1 i j hi hj, w2 i hi, w3 j hj]; exact sm i j hi hj
    · rw [w2 i hi, w1 i k hi hk, w2 k hk]; have := gp i k hi hk; omega
    · rw [w2 i hi, w4]; omega
    · rw [w3 j hj, w3 k hk, w1 k j hk hj]
      have := gp j k hj hk
      rw [h.sy j k hj hk] at this
      omega
    · rw [w3 j hj, w4]; omega
    · rw [w4, w3 k hk, w2 k hk]; have := hf.ps k hk; omega
    · rw [w4]; omega
end
end PF
set_option Elab.async false
set_option linter.all false
set_option maxRecDepth 100000
set_option maxHeartbeats 400000
/-! GB0: lists that grow; shared points; lowered rows. -/
namespace PF
open PySem PySem.Spec PyProof.Rows L2 DL
theorem _root_.DL.Yl.ext {i : Nat} {fk f : FE} {δ : Ev} {s s1 : Src} {n m1 m2 a : Nat} {Q q g : Nat → D} [l1 : LfF q] [l2 : LfF g] (hd : δ[i]? = some (.ow (vL n Q))) (ha : a < n) (hQ : Q a = vL m1 q) (hm : m1 + m2 ≤ 1000)
    (hk : Yl (fk δ s) (.int (a : Nat)) s) (hf : Yl (f δ s) (vL m2 g) s1) : Yl (sExt i fk f δ s) (.nx (δ.set i (.ow (vL n fun x => if x = a then vL (m1 + m2) (fun j => if j < m1 then q j else g (j - m1)) else Q x)))) s1 := by
  unfold Yl at *
  unfold sExt
  rw [bd_ap, hk, Option.bind_some, bd_ap, hf, Option.bind_some, hd]
  show M.of (extR δ i (seqF n Q) (a : Int) (seqF m2 g)) s1 = _
  unfold extR
  rw [seqF_len, ixN_nat2 ha, Option.bind_some, seqF_get ha, hQ]
  show M.of (if 0 ≤ (a : Int) ∧ lfs (seqF m1 q) = true ∧ lfs (seqF m2 g) = true ∧ (seqF m1 q).length + (seqF m2 g).length ≤ 1000000 then _ else none) s1 = _
  rw [if_pos ⟨by omega, lfs_seqF l1.h, lfs_seqF l2.h, by rw [seqF_len, seqF_len]; omega⟩, of_some]
  have e : seqF m1 q ++ seqF m2 g = seqF (m1 + m2) fun j => if j < m1 then q j else g (j - m1) := seqF_ext (by rw [List.length_append, seqF_len, seqF_len]) fun i hi => by
    by_cases h1 : i < m1
    · rw [List.getElem?_append_left (by rw [seqF_len]; exact h1), seqF_get h1, if_pos h1]
    · rw [List.getElem?_append_right (by rw [seqF_len]; omega), seqF_len, seqF_get (by omega), if_neg h1]
  rw [e, seqF_set ha]; rfl
theorem snoc_F (n : Nat) (f : Nat → D) : seqF n f ++ [f n] = seqF (n + 1) f := by
  unfold seqF
  rw [List.range_succ, List.map_append]; rfl
theorem _root_.DL.Yl.appF {i : Nat} {f : FE} {δ : Ev} {s s1 : Src} {n : Nat} {q : Nat → D} (hd : δ[i]? = some (.ow (vL n q))) (hn : n < 1000000) (hf : Yl (f δ s) (q n) s1) : Yl (sAppF i f δ s) (.nx (δ.set i (.ow (vL (n + 1) q)))) s1 := by
  unfold Yl at *
  unfold sAppF
  rw [hd]
  show ((f δ).bd fun d => if (seqF n q).length < 1000000 then M.ret (Out.nx (δ.set i (.ow (.lst (seqF n q ++ [d]))))) else M.no) s = _
  rw [bd_ap, hf, Option.bind_some, seqF_len, if_pos hn, snoc_F]; rfl
theorem slT2 {n k : Nat} (f : Nat → D) (h : k ≤ n) : dSl (vT n f) (some (k : Nat)) none = some (vT (n - k) fun i => f (k + i)) := by
  refine congrArg some (congrArg D.tup ?_)
  unfold DL.cutD
  have e1 : HT.sIx (seqF n f).length 0 (some (k : Nat)) = k := by
    rw [HT.sIx_nat, seqF_len]; omega
  have e2 : HT.sIx (seqF n f).length (seqF n f).length none = n := by
    show (seqF n f).length = n
    rw [seqF_len]
  rw [e1, e2]
  refine seqF_ext (by rw [List.length_take, List.length_drop, seqF_len]; omega) fun i hi => ?_
  rw [List.getElem?_take, if_pos hi, List.getElem?_drop, seqF_get (by omega)]
@[simp] theorem bList_T (n : Nat) (f : Nat → D) : bList [vT n f] = some (vL n f) := rfl
section
variable {n m k : Nat} {t u : Nat → Nat → Int} {r : Nat → Int} {s : Src}
/-- two tables that share the first points -/
structure Shd (n m k : Nat) (t u : Nat → Nat → Int) : Prop where
  dt : Dist n t
  du : Dist m u
  k1 : 1 ≤ k
  kn : k ≤ n
  km : k ≤ m
  eq : ∀ i j, i < k → j < k → t i j = u i j
  h8 : n + m - k ≤ 8
theorem chkSh (h : Shd n m k t u) : F_check_shared [tF n t, tF m u, .int (k : Nat)] s = some (.non, s) := by
  obtain ⟨dt, du, k1, kn, km, eq, h8⟩ := h
  have n8 := dt.n8
  have c1 := fun s => chkD (s := s) dt
  have c2 := fun s => chkD (s := s) du
  have rk : rg1 [.int (k : Nat)] = some (seqF k fun i => .int (i : Nat)) := rg1_F (by omega)
  refine N_check_shared (δ := [.rd (tF n t), .rd (tF m u), .rd (.int (k : Nat)), .no, .no]) ?_
  unfold g_check_shared
  refine .seq (.exp (d := .non) (by simp [c1])) (.seq (.exp (d := .non) (by simp [c2])) (.seq (.pass (.or0 (s1 := s) (by simp) ?_)) (.seq (.pass (.bTr (.call (.as1 ?_) (any_allno ((List.range k).flatMap fun i => seqF k fun _ => .bl false) fun d hd => ?_)) rfl)) (.pass (.bOf ?_)))))
  · have a : (1 : Int) ≤ (k : Int) := by omega
    have b : (k : Int) ≤ min (n : Int) (m : Int) := by omega
    simp [a, b]
  · unfold c_check_shared_1
    refine .lc2 (f := fun i => .int (i : Nat)) (by simp [rk]) (by omega) fun i hi => ⟨_, rfl, rfl, ?_⟩
    refine .inlc (f := fun i => .int (i : Nat)) (by simp [rk]) (by omega) fun j hj => ⟨_, rfl, rfl, ?_⟩
    simp (disch := omega) [eq i j hi hj]
  · obtain ⟨i, _, h2⟩ := List.mem_flatMap.mp hd
    obtain ⟨_, _, e⟩ := List.mem_map.mp h2
    exact e.symm
  · simp; omega
def stF (k : Nat) (t u : Nat → Nat → Int) (i j : Nat) : Int := mnF k fun a => t i a + u a j
def gpF (k : Nat) (t u : Nat → Nat → Int) (i j : Nat) : Int := mxF k fun a => ((t i a - u a j).natAbs : Nat)
theorem stepE (h1 : 0 < k) (kn : k ≤ n) (km : k ≤ m) (h8 : k ≤ 1000) {i j : Nat} (hi : i < n) (hj : j < m) : F_step [tF n t, tF m u, .int (k : Nat), .int (i : Nat), .int (j : Nat)] s = some (.int (stF k t u i j), s) := by
  have rk : rg1 [.int (k : Nat)] = some (seqF k fun i => .int (i : Nat)) := rg1_F (by omega)
  refine R_step (.ret (.call (.as1 (d := vL k fun a => .int (t i a + u a j)) ?_) (min_L h1)))
  unfold c_step_1
  refine .lc (s1 := s) (f := fun i => .int (i : Nat)) (by simp [rk]) (by omega) fun a ha => ⟨_, rfl, rfl, ?_⟩
  simp (disch := omega)
theorem gapE (h1 : 0 < k) (kn : k ≤ n) (km : k ≤ m) (h8 : k ≤ 1000) {i j : Nat} (hi : i < n) (hj : j < m) : F_gap [tF n t, tF m u, .int (k : Nat), .int (i : Nat), .int (j : Nat)] s = some (.int (gpF k t u i j), s) := by
  have rk : rg1 [.int (k : Nat)] = some (seqF k fun i => .int (i : Nat)) := rg1_F (by omega)
  refine R_gap (.ret (.call (.as1 (d := vL k fun a => .int ((t i a - u a j).natAbs : Nat)) ?_) (max_L h1)))
  unfold c_gap_1
  refine .lc (s1 := s) (f := fun i => .int (i : Nat)) (by simp [rk]) (by omega) fun a ha => ⟨_, rfl, rfl, ?_⟩
  simp (disch := omega)
/-- both tables, f between -/
def glF (n k : Nat) (t u f : Nat → Nat → Int) : Nat → Nat → Int := fun i j => if i < n then (if j < n then t i j else f i (k + (j - n))) else if j < n then f j (k + (i - n)) else u (k + (i - n)) (k + (j - n))
/-! lowered -/
theorem notshort (hn : n ≤ 30) (h : ∀ i j, i < j → j < n → t i j ≤ r i + r j) : F_is_short [tF n t, rF n r] s = some (.bl false, s) := by
  have ec := choi (n := n) (s := s) hn
  refine R_is_short (.ret (.call (.as1 (d := .lst ((prs n).map fun _ => .bl false)) ?_) (any_allno _ fun d hd => ?_)))
  · unfold c_is_short_1
    refine .lcL (s1 := s) (l := prs n) (f := enP) (by simp [ec]) (Nat.le_trans (prs_len n) (by have := Nat.mul_le_mul hn hn; omega)) fun p hp => ⟨_, rfl, rfl, ?_⟩
    obtain ⟨h1, h2⟩ := mem_prs.mp hp
    have := h p.1 p.2 h1 h2
    simp (disch := omega)
    omega
  · obtain ⟨_, _, e⟩ := List.mem_map.mp hd
    exact e.symm
def lowv (n : Nat) (t : Nat → Nat → Int) (f : Nat → Int) (k : Nat) : Int := mxI (0 :: ((List.range n).filter fun j => decide (j ≠ k)).map fun j => t k j - f j)
def lowR (n : Nat) (t : Nat → Nat → Int) (r : Nat → Int) : Nat → Nat → Int
  | 0 => r
  | k + 1 => fun i => if i = k then lowv n t (lowR n t r k) k else lowR n t r k i
theorem lowv_ge0 (f : Nat → Int) (k : Nat) : 0 ≤ lowv n t f k := (mxI_spec _ (by simp)).2 0 List.mem_cons_self
theorem lowv_ge (f : Nat → Int) {k j : Nat} (hj : j < n) (hk : j ≠ k) : t k j - f j ≤ lowv n t f k := (mxI_spec _ (by simp)).2 _ (List.mem_cons_of_mem _ (List.mem_map.mpr ⟨j, List.mem_filter.mpr ⟨List.mem_range.mpr hj, by simp [hk]⟩, rfl⟩))
theorem lowv_in (f : Nat → Int) (k : Nat) : lowv n t f k = 0 ∨ ∃ j, j < n ∧ j ≠ k ∧ lowv n t f k = t k j - f j := by
  rcases List.mem_cons.mp (mxI_spec (0 :: ((List.range n).filter fun j => decide (j ≠ k)).map fun j => t k j - f j) (by simp)).1 with e | e
  · exact .inl e
  · obtain ⟨j, hj, e⟩ := List.mem_map.mp e
    obtain ⟨h1, h2⟩ := List.mem_filter.mp hj
    exact .inr ⟨j, List.mem_range.mp h1, by simpa using h2, e.symm⟩
theorem lower (h : Dist n t) (h0 : ∀ i, i < n → 0 ≤ r i) (hs : ∀ i j, i < j → j < n → t i j ≤ r i + r j) : F_lowered [tF n t, rF n r] s = some (rF n (lowR n t r n), s) := by
  have n8 := h.n8
  have c1 := fun s => chkD (s := s) h
  have c2 := fun s => chkRS (t := t) (s := s) (show n ≤ 1000 by omega) h0
  have c3 := fun s => notshort (s := s) (show n ≤ 30 by omega) hs
  have rn : rg1 [.int (n : Nat)] = some (seqF n fun i => .int (i : Nat)) := rg1_F (by omega)
  refine R_lowered ?_
  unfold g_lowered
  refine .seq (.exp (d := .non) (by simp [c1])) (.seq (.exp (d := .non) (by simp [c2])) (.seq (.pass (by simp [c3])) (.seq (.own (d := vL n fun i => .int (r i)) (by simp)) (.then_ (P := fun δ s' => ∃ A B, δ = [.rd (tF n t), .rd (rF n r), .ow (vL n fun i => .int (lowR n t r n i)), A, B] ∧ s' = s) ?_ fun δ s' ⟨A, B, e, es⟩ => by subst e es; exact .ret (by simp)))))
  refine Yl.for_ (n := n) (f := fun i => .int (i : Nat)) (s1 := s) (fun k δ s' => ∃ A B, δ = [.rd (tF n t), .rd (rF n r), .ow (vL n fun i => .int (lowR n t r k i)), A, B] ∧ s' = s) (by simp [rn]) ⟨_, _, rfl, rfl⟩ ?_
  rintro k δ s' hk ⟨A, B, rfl, rfl⟩
  refine ⟨rfl, _, rfl, ?_⟩
  have en : lowR n t r (k + 1) = fun i => if i = k then lowv n t (lowR n t r k) k else lowR n t r k i := rfl
  rw [en]
  generalize lowR n t r k = f
  unfold b_lowered_2
  refine .mk (Yl.sub (i := 2) (n := n) (q := fun i => .int (f i)) (a := k) (v := .int (lowv n t f k)) (s1 := s') (s2 := s') rfl hk (fun _ => rfl) rfl (.call (.as1 (.e2 (s1 := s') (a := .lst [.int 0]) (b := .lst ((((List.range n).filter fun j => decide (j ≠ k)).map fun j => t k j - f j).map .int)) (by simp) ?_ (d := .lst ((0 :: ((List.range n).filter fun j => decide (j ≠ k)).map fun j => t k j - f j).map .int)) ?_)) (max_lst (by simp))) (by simp)) ⟨.rd (.int (k : Nat)), B, ?_, rfl⟩
  · rw [List.map_map]
    unfold c_lowered_1
    refine .lcI (s1 := s') (l := List.range n) (f := fun i => .int (i : Nat)) (t := fun j => decide (j ≠ k)) (by simp [rn]; rfl) (by simp; omega) fun j hj => ⟨_, rfl, ?_, fun _ => ?_⟩
    · by_cases e : j = k
      · subst e; simp
      · have : ¬ (j : Int) = (k : Int) := by omega
        simp [e, this]
    · have := List.mem_range.mp hj
      simp (disch := omega)
  · show (if 1 + ((((List.range n).filter fun j => decide (j ≠ k)).map fun j => t k j - f j).map D.int).length ≤ 1000000 then some (D.lst _) else none) = _
    rw [if_pos (by
      rw [List.length_map, List.length_map]
      have := List.length_filter_le (fun j => decide (j ≠ k)) (List.range n)
      rw [List.length_range] at this
      omega)]
    rfl
  · simp only [List.set_cons_succ, List.set_cons_zero]
    congr 4
    refine vL_congr fun i _ => ?_
    split <;> rfl
/-- lowered rows lie below, are not short -/
theorem lowR_ok (h : Dist n t) (h0 : ∀ i, i < n → 0 ≤ r i) (hs : ∀ i j, i < n → j < n → i ≠ j → t i j ≤ r i + r j) : ∀ k, k ≤ n → (∀ i, i < n → 0 ≤ lowR n t r k i ∧ lowR n t r k i ≤ r i) ∧ ∀ i j, i < n → j < n → i ≠ j → t i j ≤ lowR n t r k i + lowR n t r k j
  | 0, _ => ⟨fun i hi => ⟨h0 i hi, Int.le_refl _⟩, hs⟩
  | k + 1, hk => by
    obtain ⟨a, b⟩ := lowR_ok h h0 hs k (by omega)
    have en : lowR n t r (k + 1) = fun i => if i = k then lowv n t (lowR n t r k) k else lowR n t r k i := rfl
    rw [en]
    generalize lowR n t r k = f at a b
    have hv : lowv n t f k ≤ f k := by
      rcases lowv_in (n := n) (t := t) f k with e | ⟨j, hj, hjk, e⟩
      · rw [e]; exact (a k (by omega)).1
      · have := b k j (by omega) hj (Ne.symm hjk)
        omega
    refine ⟨fun i hi => ?_, fun i j hi hj hij => ?_⟩
    · show 0 ≤ (if i = k then lowv n t f k else f i) ∧ (if i = k then lowv n t f k else f i) ≤ r i
      by_cases e : i = k
      · subst e
        rw [if_pos rfl]
        exact ⟨lowv_ge0 _ _, Int.le_trans hv (a i hi).2⟩
      · rw [if_neg e]; exact a i hi
    · show t i j ≤ (if i = k then lowv n t f k else f i) + (if j = k then lowv n t f k else f j)
      by_cases e : i = k
      · subst e
        rw [if_pos rfl, if_neg (Ne.symm hij)]
        have := lowv_ge (n := n) (t := t) f hj (Ne.symm hij)
        omega
      · rw [if_neg e]
        by_cases e2 : j = k
        · subst e2
          rw [if_pos rfl]
          have := lowv_ge (n := n) (t := t) f hi hij
          rw [h.sy i j hi hj]
          omega
        · rw [if_neg e2]; exact b i j hi hj hij
end
end PF
set_option Elab.async false
set_option linter.all false
set_option maxRecDepth 100000
set_option maxHeartbeats 400000
/-! GB: tables put together (printed by mkgl.py). -/
namespace PF
open PySem PySem.Spec PyProof.Rows L2 DL
section
variable {n m k : Nat} {t u : Nat → Nat → Int} {s : Src}
theorem glued (h : Shd n m k t u) : F_glued [tF n t, tF m u, .int (k : Nat)] s = some (tF (n + (m - k)) (glF n k t u (stF k t u)), s) := by
  have cs := fun s => chkSh (s := s) h
  obtain ⟨dt, du, k1, kn, km, eq, h8⟩ := h
  have n8 := dt.n8
  have m8 := du.n8
  have rn : rg1 [.int (n : Nat)] = some (seqF n fun i => .int (i : Nat)) := rg1_F (by omega)
  have rk : rg2 [.int (k : Nat), .int (m : Nat)] = some (seqF (m - k) fun i => .int ((k + i : Nat) : Int)) := rg2_F (by omega) (by omega)
  have se : ∀ i j s, i < n → j < m → F_step [tF n t, tF m u, .int (k : Nat), .int (i : Nat), .int (j : Nat)] s = some (.int (stF k t u i j), s) := fun i j s hi hj => stepE (by omega) kn km (by omega) hi hj
  have se2 : ∀ i j s, i < n → k + j < m → F_step [tF n t, tF m u, .int (k : Nat), .int (i : Nat), .int ((k : Int) + (j : Int))] s = some (.int (stF k t u i (k + j)), s) := fun i j s hi hj => se i (k + j) s hi hj
  have row : ∀ i, i < n → (vL (n + (m - k)) fun j => if j < n then D.int (t i j) else .int (stF k t u i (k + (j - n)))) = vL (n + (m - k)) fun j => .int (glF n k t u (stF k t u) i j) := fun i hi => vL_congr fun j _ => by
    unfold glF
    rw [if_pos hi]
    split <;> rfl
  have row2 : ∀ i, n ≤ i → (vL (n + (m - k)) fun j => if j < n then D.int (stF k t u j (k + (i - n))) else .int (u (k + (i - n)) (k + (j - n)))) = vL (n + (m - k)) fun j => .int (glF n k t u (stF k t u) i j) := fun i hi => vL_congr fun j _ => by
    unfold glF
    rw [if_neg (show ¬ i < n by omega)]
    split <;> rfl
  refine R_glued ?_
  unfold g_glued
  refine .seq (.exp (d := .non) (by simp [cs])) (.seq (.set (d := .int (n : Nat)) (by simp) rfl) (.seq (.own (d := vL n fun i => vL n fun j => .int (t i j)) ?_) (.then_ (P := fun δ s' => ∃ A B C, δ = [.rd (tF n t), .rd (tF m u), .rd (.int (k : Nat)), .rd (.int (n : Nat)), .ow (vL n fun i => vL (n + (m - k)) fun j => .int (glF n k t u (stF k t u) i j)), A, B, C] ∧ s' = s) ?_ ?_)))
  · unfold c_glued_1
    exact .lc (s1 := s) (f := fun i => rF n (t i)) (by simp) (by omega) fun i hi => ⟨_, rfl, rfl, by simp⟩
  · refine .imp (Yl.for_ (n := n) (f := fun i => .int (i : Nat)) (s1 := s) (fun a δ s' => ∃ A B C, δ = [.rd (tF n t), .rd (tF m u), .rd (.int (k : Nat)), .rd (.int (n : Nat)), .ow (vL n fun i => if i < a then vL (n + (m - k)) fun j => .int (glF n k t u (stF k t u) i j) else vL n fun j => .int (t i j)), A, B, C] ∧ s' = s) (by simp [rn]) ⟨.no, .no, .no, by simp, rfl⟩ ?_) ?_
    · rintro a δ s' ha ⟨A, B, C, rfl, rfl⟩
      refine ⟨rfl, _, rfl, ?_⟩
      unfold b_glued_3
      refine .mk (Yl.ext (i := 4) (n := n) (m1 := n) (m2 := m - k) (a := a) (Q := fun i => if i < a then vL (n + (m - k)) fun j => .int (glF n k t u (stF k t u) i j) else vL n fun j => .int (t i j)) (q := fun j => .int (t a j)) (g := fun j => .int (stF k t u a (k + j))) (s1 := s') rfl ha (if_neg (Nat.lt_irrefl a)) (by omega) (by simp) ?_) ⟨.rd (.int (a : Nat)), B, C, ?_, rfl⟩
      · unfold c_glued_2
        refine .lc (s1 := s') (f := fun i => .int ((k + i : Nat) : Int)) (by simp [rk]) (by omega) fun j hj => ⟨_, rfl, rfl, ?_⟩
        simp [se2 a j _ ha (show k + j < m by omega)]
      · simp only [List.set_cons_succ, List.set_cons_zero, row a ha]
        congr 6
        refine vL_congr fun i _ => ?_
        by_cases e : i = a
        · subst e
          rw [if_pos rfl, if_pos (Nat.lt_succ_self _)]
        · rw [if_neg e]
          by_cases e2 : i < a
          · rw [if_pos e2, if_pos (by omega)]
          · rw [if_neg e2, if_neg (by omega)]
    · rintro δ s' ⟨A, B, C, rfl, rfl⟩
      refine ⟨A, B, C, ?_, rfl⟩
      have e : (vL n fun i => if i < n then vL (n + (m - k)) fun j => D.int (glF n k t u (stF k t u) i j) else vL n fun j => .int (t i j)) = vL n fun i => vL (n + (m - k)) fun j => .int (glF n k t u (stF k t u) i j) := vL_congr fun i hi => if_pos hi
      rw [e]
  · rintro δ s' ⟨A, B, C, rfl, rfl⟩
    refine .then_ (P := fun δ s => ∃ A B C, δ = [.rd (tF n t), .rd (tF m u), .rd (.int (k : Nat)), .rd (.int (n : Nat)), .ow (vL (n + (m - k)) fun i => vL (n + (m - k)) fun j => .int (glF n k t u (stF k t u) i j)), A, B, C] ∧ s = s') (Yl.for_ (n := m - k) (f := fun i => .int ((k + i : Nat) : Int)) (s1 := s') (fun b δ s => ∃ A B C, δ = [.rd (tF n t), .rd (tF m u), .rd (.int (k : Nat)), .rd (.int (n : Nat)), .ow (vL (n + b) fun i => vL (n + (m - k)) fun j => .int (glF n k t u (stF k t u) i j)), A, B, C] ∧ s = s') (by simp [rk]) ⟨_, _, _, rfl, rfl⟩ ?_) ?_
    · rintro b δ s hb ⟨A, B, C, rfl, rfl⟩
      refine ⟨rfl, _, rfl, ?_⟩
      unfold b_glued_5
      have r2 := row2 (n + b) (by omega)
      rw [show n + b - n = b by omega] at r2
      refine .mk (Yl.appF (i := 4) (n := n + b) (q := fun i => vL (n + (m - k)) fun j => .int (glF n k t u (stF k t u) i j)) (s1 := s) rfl (by omega) (.e2 (s1 := s) (a := vL n fun i => .int (stF k t u i (k + b))) (b := vL (m - k) fun j => .int (u (k + b) (k + j))) ?_ ?_ ?_)) ⟨_, _, _, rfl, rfl⟩
      · unfold c_glued_4
        refine .lc (s1 := s) (f := fun i => .int (i : Nat)) (by simp [rn]) (by omega) fun i hi => ⟨_, rfl, rfl, ?_⟩
        simp [se2 i b _ hi (show k + b < m by omega)]
      · have ix : dIx (tF m u) (.int ((k : Int) + (b : Int))) = some (rF m (u (k + b))) := vT_ix (n := m) (i := k + b) (f := fun i => rF m (u i)) (by omega)
        simp [ix, slT2 (fun j => D.int (u (k + b) j)) km, -ix_int]
      · rw [catF_F (by omega), r2]
    · rintro δ s ⟨A, B, C, rfl, rfl⟩
      refine .ret (.call (.as1 (d := vL (n + (m - k)) fun i => rF (n + (m - k)) (glF n k t u (stF k t u) i)) ?_) (by simp))
      unfold c_glued_6
      exact .lc (s1 := s) (f := fun i => vL (n + (m - k)) fun j => .int (glF n k t u (stF k t u) i j)) (by simp) (by omega) fun i hi => ⟨_, rfl, rfl, by simp⟩
theorem least_glued (h : Shd n m k t u) : F_least_glued [tF n t, tF m u, .int (k : Nat)] s = some (tF (n + (m - k)) (glF n k t u (gpF k t u)), s) := by
  have cs := fun s => chkSh (s := s) h
  obtain ⟨dt, du, k1, kn, km, eq, h8⟩ := h
  have n8 := dt.n8
  have m8 := du.n8
  have rn : rg1 [.int (n : Nat)] = some (seqF n fun i => .int (i : Nat)) := rg1_F (by omega)
  have rk : rg2 [.int (k : Nat), .int (m : Nat)] = some (seqF (m - k) fun i => .int ((k + i : Nat) : Int)) := rg2_F (by omega) (by omega)
  have se : ∀ i j s, i < n → j < m → F_gap [tF n t, tF m u, .int (k : Nat), .int (i : Nat), .int (j : Nat)] s = some (.int (gpF k t u i j), s) := fun i j s hi hj => gapE (by omega) kn km (by omega) hi hj
  have se2 : ∀ i j s, i < n → k + j < m → F_gap [tF n t, tF m u, .int (k : Nat), .int (i : Nat), .int ((k : Int) + (j : Int))] s = some (.int (gpF k t u i (k + j)), s) := fun i j s hi hj => se i (k + j) s hi hj
  have row : ∀ i, i < n → (vL (n + (m - k)) fun j => if j < n then D.int (t i j) else .int (gpF k t u i (k + (j - n)))) = vL (n + (m - k)) fun j => .int (glF n k t u (gpF k t u) i j) := fun i hi => vL_congr fun j _ => by
    unfold glF
    rw [if_pos hi]
    split <;> rfl
  have row2 : ∀ i, n ≤ i → (vL (n + (m - k)) fun j => if j < n then D.int (gpF k t u j (k + (i - n))) else .int (u (k + (i - n)) (k + (j - n)))) = vL (n + (m - k)) fun j => .int (glF n k t u (gpF k t u) i j) := fun i hi => vL_congr fun j _ => by
    unfold glF
    rw [if_neg (show ¬ i < n by omega)]
    split <;> rfl
  refine R_least_glued ?_
  unfold g_least_glued
  refine .seq (.exp (d := .non) (by simp [cs])) (.seq (.set (d := .int (n : Nat)) (by simp) rfl) (.seq (.own (d := vL n fun i => vL n fun j => .int (t i j)) ?_) (.then_ (P := fun δ s' => ∃ A B C, δ = [.rd (tF n t), .rd (tF m u), .rd (.int (k : Nat)), .rd (.int (n : Nat)), .ow (vL n fun i => vL (n + (m - k)) fun j => .int (glF n k t u (gpF k t u) i j)), A, B, C] ∧ s' = s) ?_ ?_)))
  · unfold c_least_glued_1
    exact .lc (s1 := s) (f := fun i => rF n (t i)) (by simp) (by omega) fun i hi => ⟨_, rfl, rfl, by simp⟩
  · refine .imp (Yl.for_ (n := n) (f := fun i => .int (i : Nat)) (s1 := s) (fun a δ s' => ∃ A B C, δ = [.rd (tF n t), .rd (tF m u), .rd (.int (k : Nat)), .rd (.int (n : Nat)), .ow (vL n fun i => if i < a then vL (n + (m - k)) fun j => .int (glF n k t u (gpF k t u) i j) else vL n fun j => .int (t i j)), A, B, C] ∧ s' = s) (by simp [rn]) ⟨.no, .no, .no, by simp, rfl⟩ ?_) ?_
    · rintro a δ s' ha ⟨A, B, C, rfl, rfl⟩
      refine ⟨rfl, _, rfl, ?_⟩
      unfold b_least_glued_3
      refine .mk (Yl.ext (i := 4) (n := n) (m1 := n) (m2 := m - k) (a := a) (Q := fun i => if i < a then vL (n + (m - k)) fun j => .int (glF n k t u (gpF k t u) i j) else vL n fun j => .int (t i j)) (q := fun j => .int (t a j)) (g := fun j => .int (gpF k t u a (k + j))) (s1 := s') rfl ha (if_neg (Nat.lt_irrefl a)) (by omega) (by simp) ?_) ⟨.rd (.int (a : Nat)), B, C, ?_, rfl⟩
      · unfold c_least_glued_2
        refine .lc (s1 := s') (f := fun i => .int ((k + i : Nat) : Int)) (by simp [rk]) (by omega) fun j hj => ⟨_, rfl, rfl, ?_⟩
        simp [se2 a j _ ha (show k + j < m by omega)]
      · simp only [List.set_cons_succ, List.set_cons_zero, row a ha]
        congr 6
        refine vL_congr fun i _ => ?_
        by_cases e : i = a
        · subst e
          rw [if_pos rfl, if_pos (Nat.lt_succ_self _)]
        · rw [if_neg e]
          by_cases e2 : i < a
          · rw [if_pos e2, if_pos (by omega)]
          · rw [if_neg e2, if_neg (by omega)]
    · rintro δ s' ⟨A, B, C, rfl, rfl⟩
      refine ⟨A, B, C, ?_, rfl⟩
      have e : (vL n fun i => if i < n then vL (n + (m - k)) fun j => D.int (glF n k t u (gpF k t u) i j) else vL n fun j => .int (t i j)) = vL n fun i => vL (n + (m - k)) fun j => .int (glF n k t u (gpF k t u) i j) := vL_congr fun i hi => if_pos hi
      rw [e]
  · rintro δ s' ⟨A, B, C, rfl, rfl⟩
    refine .then_ (P := fun δ s => ∃ A B C, δ = [.rd (tF n t), .rd (tF m u), .rd (.int (k : Nat)), .rd (.int (n : Nat)), .ow (vL (n + (m - k)) fun i => vL (n + (m - k)) fun j => .int (glF n k t u (gpF k t u) i j)), A, B, C] ∧ s = s') (Yl.for_ (n := m - k) (f := fun i => .int ((k + i : Nat) : Int)) (s1 := s') (fun b δ s => ∃ A B C, δ = [.rd (tF n t), .rd (tF m u), .rd (.int (k : Nat)), .rd (.int (n : Nat)), .ow (vL (n + b) fun i => vL (n + (m - k)) fun j => .int (glF n k t u (gpF k t u) i j)), A, B, C] ∧ s = s') (by simp [rk]) ⟨_, _, _, rfl, rfl⟩ ?_) ?_
    · rintro b δ s hb ⟨A, B, C, rfl, rfl⟩
      refine ⟨rfl, _, rfl, ?_⟩
      unfold b_least_glued_5
      have r2 := row2 (n + b) (by omega)
      rw [show n + b - n = b by omega] at r2
      refine .mk (Yl.appF (i := 4) (n := n + b) (q := fun i => vL (n + (m - k)) fun j => .int (glF n k t u (gpF k t u) i j)) (s1 := s) rfl (by omega) (.e2 (s1 := s) (a := vL n fun i => .int (gpF k t u i (k + b))) (b := vL (m - k) fun j => .int (u (k + b) (k + j))) ?_ ?_ ?_)) ⟨_, _, _, rfl, rfl⟩
      · unfold c_least_glued_4
        refine .lc (s1 := s) (f := fun i => .int (i : Nat)) (by simp [rn]) (by omega) fun i hi => ⟨_, rfl, rfl, ?_⟩
        simp [se2 i b _ hi (show k + b < m by omega)]
      · have ix : dIx (tF m u) (.int ((k : Int) + (b : Int))) = some (rF m (u (k + b))) := vT_ix (n := m) (i := k + b) (f := fun i => rF m (u i)) (by omega)
        simp [ix, slT2 (fun j => D.int (u (k + b) j)) km, -ix_int]
      · rw [catF_F (by omega), r2]
    · rintro δ s ⟨A, B, C, rfl, rfl⟩
      refine .ret (.call (.as1 (d := vL (n + (m - k)) fun i => rF (n + (m - k)) (glF n k t u (gpF k t u) i)) ?_) (by simp))
      unfold c_least_glued_6
      exact .lc (s1 := s) (f := fun i => vL (n + (m - k)) fun j => .int (glF n k t u (gpF k t u) i j)) (by simp) (by omega) fun i hi => ⟨_, rfl, rfl, by simp⟩
end
end PF
set_option Elab.async false
set_option linter.all false
set_option maxRecDepth 100000
set_option maxHeartbeats 400000
/-! GC: searching loops, the paper of any table, drawn things of any kind. -/
namespace PF
open PySem PySem.Spec PyProof.Rows L2 DL
section
variable {h : FI} {vs : List Nat} {g : D → Ev → Option Ev} {tt : Ev → M Bool} {te : FE} {δ : Ev} {s s1 : Src}
/-- a loop that looks for the first thing and hands something back for it -/
theorem fLp_find {α : Type} {tg : D → Ev → Option Ev} {body : FS} {f : α → D} (I : Ev → Prop) (p : α → Bool) (R : α → D) : ∀ (l : List α) (δ : Ev), I δ →
    (∀ a δ, a ∈ l → I δ → (f a).lf = true ∧ ∃ δ1, tg (f a) δ = some δ1 ∧ (p a = true → Yl (body δ1 s) (.rt (R a)) s) ∧ (p a = false → ∃ δ2, Yl (body δ1 s) (.nx δ2) s ∧ I δ2)) →
    (∀ a, l.find? p = some a → Yl (fLp tg body (l.map f) δ s) (.rt (R a)) s) ∧ (l.find? p = none → ∃ δ', Yl (fLp tg body (l.map f) δ s) (.nx δ') s ∧ I δ')
  | [], δ, h0, _ => ⟨fun a e => by simp at e, fun _ => ⟨δ, rfl, h0⟩⟩
  | a :: l, δ, h0, hs => by
    obtain ⟨hl, δ1, e1, h1, h2⟩ := hs a δ List.mem_cons_self h0
    cases hp : p a with
    | true =>
      have b := (h1 hp).eq
      refine ⟨fun c e => ?_, fun e => ?_⟩
      · rw [List.find?_cons, hp] at e
        cases e
        unfold Yl
        rw [List.map_cons, fLp]
        simp only [bd_ap, hl, if_true, e1, of_some, Option.bind_some, b, ret_ap]
      · rw [List.find?_cons, hp] at e
        cases e
    | false =>
      obtain ⟨δ2, b, h3⟩ := h2 hp
      have b := b.eq
      obtain ⟨r1, r2⟩ := fLp_find (tg := tg) (body := body) (f := f) I p R l δ2 h3 fun c δ hc => hs c δ (List.mem_cons_of_mem _ hc)
      have st : fLp tg body ((a :: l).map f) δ s = fLp tg body (l.map f) δ2 s := by
        rw [List.map_cons, fLp]
        simp only [bd_ap, hl, if_true, e1, of_some, Option.bind_some, b]
      rw [st, List.find?_cons, hp]
      exact ⟨r1, r2⟩
theorem _root_.DL.Yl.forFind {α : Type} {l : List α} {tg : D → Ev → Option Ev} {body : FS} {f : α → D} (I : Ev → Prop) (p : α → Bool) (R : α → D) (h1 : Yl (h δ s) (l.map f) s) (h0 : I δ)
    (hs : ∀ a δ, a ∈ l → I δ → (f a).lf = true ∧ ∃ δ1, tg (f a) δ = some δ1 ∧ (p a = true → Yl (body δ1 s) (.rt (R a)) s) ∧ (p a = false → ∃ δ2, Yl (body δ1 s) (.nx δ2) s ∧ I δ2)) :
    (∀ a, l.find? p = some a → Yl (sFor h tg body δ s) (.rt (R a)) s) ∧ (l.find? p = none → ∃ δ', Yl (sFor h tg body δ s) (.nx δ') s ∧ I δ') := by
  have e : sFor h tg body δ s = fLp tg body (l.map f) δ s := by rw [sFor_ap, h1.eq]; rfl
  rw [e]
  exact fLp_find I p R l δ h0 hs
theorem _root_.DL.Yl.forNFind {α : Type} {l : List α} {tg : D → Ev → Option Ev} {body : FS} {f : α → D} (I : Ev → Prop) (p : α → Bool) (R : α → D) (h1 : Yl (h δ s) (l.map f) s) (hn : noOw δ = true) (h0 : I δ)
    (hs : ∀ a δ, a ∈ l → I δ → (f a).lf = true ∧ ∃ δ1, tg (f a) δ = some δ1 ∧ (p a = true → Yl (body δ1 s) (.rt (R a)) s) ∧ (p a = false → ∃ δ2, Yl (body δ1 s) (.nx δ2) s ∧ I δ2)) :
    (∀ a, l.find? p = some a → Yl (sForN h tg body δ s) (.rt (R a)) s) ∧ (l.find? p = none → ∃ δ', Yl (sForN h tg body δ s) (.nx δ') s ∧ I δ') := by
  have e : sForN h tg body δ s = fLp tg body (l.map f) δ s := by rw [sForN_ap, h1.eq, Option.bind_some, if_pos hn]
  rw [e]
  exact fLp_find I p R l δ h0 hs
/-- drawn things of a kind -/
theorem _root_.DL.Yl.lcDE {β : Type} (b0 : β) (en : β → D) (P : Nat → β → Prop) {n : Nat} {f : Nat → D} (h1 : Yl (h δ s) (seqF n f) s1) (hn : n ≤ 1000000) (hb : ∀ i, i < n → ∀ s, ∃ d s', P i d ∧ ∃ δ1, g (f i) (wipeE δ vs) = some δ1 ∧ Yl (tt δ1 s) true s ∧ Yl (te δ1 s) (en d) s') :
    ∃ (F : Nat → β) (s' : Src), Yl (eLc h vs g tt te δ s) (vL n fun i => en (F i)) s' ∧ ∀ i, i < n → P i (F i) := by
  obtain ⟨F, s', e, hp⟩ := Yl.lcD (P := fun i d => ∃ j, d = en j ∧ P i j) h1 hn fun i hi s => by
    obtain ⟨d, s', q, r⟩ := hb i hi s
    exact ⟨en d, s', ⟨d, rfl, q⟩, r⟩
  have : ∃ G : Nat → β, ∀ i, i < n → F i = en (G i) ∧ P i (G i) := by
    refine ⟨fun i => if hi : i < n then Classical.choose (hp i hi) else b0, fun i hi => ?_⟩
    have := Classical.choose_spec (hp i hi)
    simp only [hi, dif_pos]
    exact this
  obtain ⟨G, hG⟩ := this
  exact ⟨G, s', e.cast (vL_congr fun i hi => (hG i hi).1), fun i hi => (hG i hi).2⟩
theorem _root_.DL.Yl.tl {f : FE} {n : Nat} {gs : List D → Ev → Option Ev} {δ' : Ev} {ds : List D} (h : Yl (f δ s) (.lst ds) s1) (hl : ds.length = n) (hf : lfs ds = true) (e : gs ds δ = some δ') : Yl (sTl f n gs δ s) (.nx δ') s1 := by
  unfold Yl at *
  rw [sTl_ap, h, Option.bind_some]
  show Option.bind (M.of (if ds.length = n ∧ lfs ds = true then gs ds δ else none) s1) _ = _
  rw [if_pos ⟨hl, hf⟩, e]; rfl
end
section
variable {n : Nat} {t : Nat → Nat → Int} {r : Nat → Int} {s : Src}
/-! the paper of any table -/
def shAt (n : Nat) (t : Nat → Nat → Int) (p : Nat × Nat) : Option Nat := (List.range n).find? fun k => decide (t p.1 k + t k p.2 < t p.1 p.2)
def dpR (n : Nat) (t : Nat → Nat → Int) : D := match (prs n).find? (fun p => decide (t p.1 p.2 = 0)) with
  | some p => .tup [.str "same", .int (p.1 : Nat), .int (p.2 : Nat)]
  | none => match (prs n).find? (fun p => (shAt n t p).isSome) with
    | some p => .tup [.str "short", .int (p.1 : Nat), .int (((shAt n t p).getD 0 : Nat) : Int), .int (p.2 : Nat)]
    | none => .tup [.str "distances"]
theorem dpap' (h : Tab n t) : F_distance_paper [tF n t] s = some (dpR n t, s) := by
  have n1 := h.n1
  have n8 := h.n8
  have ec := choi (n := n) (s := s) (by omega)
  have rn : rg1 [.int (n : Nat)] = some (seqF n fun i => .int (i : Nat)) := rg1_F (by omega)
  refine R_distance_paper ?_
  unfold g_distance_paper
  refine .seq (.exp (d := .non) (by simp [chkT h])) ?_
  obtain ⟨f1, f2⟩ := Yl.forNFind (h := iSeq (eFn (fun ds => if ds.length = 2 then F_choices ds else M.no) (eAs (eCall bLen (eAs (eVar 0) eAs0)) (eAs (eC (.int 2)) eAs0)))) (tg := gT 2 (gsC (gN 1) (gsC (gN 2) gs0))) (body := b_distance_paper_1) (δ := [.rd (tF n t), .no, .no, .no]) (s := s) (l := prs n) (f := enP)
    (fun δ => ∃ A B C : Sl, δ = [.rd (tF n t), A, B, C] ∧ noOw [A, B, C] = true) (fun p => decide (t p.1 p.2 = 0)) (fun p => .tup [.str "same", .int (p.1 : Nat), .int (p.2 : Nat)]) (by simp [ec]) rfl ⟨_, _, _, rfl, rfl⟩ (by
      rintro p δ hp ⟨A, B, C, rfl, hv⟩
      obtain ⟨h1, h2⟩ := mem_prs.mp hp
      refine ⟨by simp [enP], _, rfl, fun e => ?_, fun e => ⟨[.rd (tF n t), .rd (.int (p.1 : Nat)), .rd (.int (p.2 : Nat)), C], ?_, _, _, _, rfl, ?_⟩⟩
      · unfold b_distance_paper_1
        have e := of_decide_eq_true e
        exact .ifT (by simp (disch := omega) [e]) (.ret (by simp))
      · unfold b_distance_paper_1
        have e := of_decide_eq_false e
        exact .pass (by simp (disch := omega) [e])
      · simp [noOw] at hv ⊢
        exact hv.2.2)
  unfold dpR
  cases c1 : (prs n).find? (fun p => decide (t p.1 p.2 = 0)) with
  | some p => exact .seqR (f1 p c1)
  | none =>
    obtain ⟨δ', e1, A, B, C, rfl, hv⟩ := f2 c1
    refine .seq e1 ?_
    obtain ⟨k1, k2⟩ := Yl.forNFind (h := iSeq (eFn (fun ds => if ds.length = 2 then F_choices ds else M.no) (eAs (eCall bLen (eAs (eVar 0) eAs0)) (eAs (eC (.int 2)) eAs0)))) (tg := gT 2 (gsC (gN 1) (gsC (gN 2) gs0))) (body := b_distance_paper_3) (δ := [.rd (tF n t), A, B, C]) (s := s) (l := prs n) (f := enP)
      (fun δ => ∃ A B C : Sl, δ = [.rd (tF n t), A, B, C]) (fun p => (shAt n t p).isSome) (fun p => .tup [.str "short", .int (p.1 : Nat), .int (((shAt n t p).getD 0 : Nat) : Int), .int (p.2 : Nat)]) (by simp [ec]) (by simpa [noOw] using hv) ⟨_, _, _, rfl⟩ (by
        rintro p δ hp ⟨A, B, C, rfl⟩
        obtain ⟨h1, h2⟩ := mem_prs.mp hp
        obtain ⟨q1, q2⟩ := Yl.forFind (h := iOf rg1 (eAs (eCall bLen (eAs (eVar 0) eAs0)) eAs0)) (tg := gN 3) (body := b_distance_paper_2) (δ := [.rd (tF n t), .rd (.int (p.1 : Nat)), .rd (.int (p.2 : Nat)), C]) (s := s) (l := List.range n) (f := fun k : Nat => D.int k)
          (fun δ => ∃ C : Sl, δ = [.rd (tF n t), .rd (.int (p.1 : Nat)), .rd (.int (p.2 : Nat)), C]) (fun k => decide (t p.1 k + t k p.2 < t p.1 p.2)) (fun k => .tup [.str "short", .int (p.1 : Nat), .int (k : Nat), .int (p.2 : Nat)]) (by simp [rn]; rfl) ⟨_, rfl⟩ (by
            rintro k δ hk ⟨C, rfl⟩
            have hk := List.mem_range.mp hk
            refine ⟨rfl, _, rfl, fun e => ?_, fun e => ⟨[.rd (tF n t), .rd (.int (p.1 : Nat)), .rd (.int (p.2 : Nat)), .rd (.int (k : Nat))], ?_, _, rfl⟩⟩
            · unfold b_distance_paper_2
              have e := of_decide_eq_true e
              exact .ifT (by simp (disch := omega) [e]) (.ret (by simp))
            · unfold b_distance_paper_2
              have e := of_decide_eq_false e
              exact .pass (by simp (disch := omega); omega))
        refine ⟨by simp [enP], _, rfl, fun e => ?_, fun e => ?_⟩
        · obtain ⟨k, ek⟩ := Option.isSome_iff_exists.mp e
          have := q1 k ek
          rw [ek]
          exact this
        · have en : shAt n t p = none := by
            cases c : shAt n t p with
            | none => rfl
            | some k => rw [c] at e; cases e
          obtain ⟨δ', e3, C', rfl⟩ := q2 en
          exact ⟨_, e3, _, _, _, rfl⟩)
    cases c2 : (prs n).find? (fun p => (shAt n t p).isSome) with
    | some p => exact .seqR (k1 p c2)
    | none =>
      obtain ⟨δ', e2, A, B, C, rfl⟩ := k2 c2
      exact .seq e2 (.ret (by simp))
theorem okSame : PyData.strOk "same" = true := by decide +kernel
theorem okShort : PyData.strOk "short" = true := by decide +kernel
theorem eqv_long (a b c : D) (d : List D) : (D.tup (a :: b :: d)).eqv (.tup [c]) = false := by
  rw [eqv_cons, eqv_tup, pys, pys, PyData.eqvAll]
  · simp
  all_goals (intros; simp)
theorem dp_eq (h : Tab n t) (P : Prop) [Decidable P] (hP : Dist n t ↔ P) : dEq (dpR n t) (.tup [.str "distances"]) = some (.bl (decide P)) := by
  unfold dpR
  cases c1 : (prs n).find? (fun p => decide (t p.1 p.2 = 0)) with
  | some p =>
    have e := List.find?_some c1
    have hm := mem_prs.mp (List.mem_of_find?_eq_some c1)
    have nP : ¬ P := fun z => by
      have := (hP.mpr z).ps p.1 p.2 (by omega) hm.2 (by omega)
      have := of_decide_eq_true e
      omega
    unfold dEq
    rw [eqv_long, decide_eq_false nP]
    have : (dOk 8 (D.tup [.str "same", .int (p.1 : Nat), .int (p.2 : Nat)]) && dOk 8 (D.tup [.str "distances"])) = true := by
      simp [dOk_str _ okSame, dOk_str _ okDist]
    rw [if_pos this]
  | none =>
    dsimp only
    cases c2 : (prs n).find? (fun p => (shAt n t p).isSome) with
    | some p =>
      have e := List.find?_some c2
      have hm := mem_prs.mp (List.mem_of_find?_eq_some c2)
      obtain ⟨k, ek⟩ := Option.isSome_iff_exists.mp e
      have ek : (List.range n).find? (fun k => decide (t p.1 k + t k p.2 < t p.1 p.2)) = some k := ek
      have e2 : t p.1 k + t k p.2 < t p.1 p.2 := by simpa using List.find?_some ek
      have hk := List.mem_range.mp (List.mem_of_find?_eq_some ek)
      have nP : ¬ P := fun z => by
        have := (hP.mpr z).tr p.1 p.2 k (by omega) hm.2 hk
        omega
      unfold dEq
      rw [eqv_long, decide_eq_false nP]
      have : (dOk 8 (D.tup [.str "short", .int (p.1 : Nat), .int (((shAt n t p).getD 0 : Nat) : Int), .int (p.2 : Nat)]) && dOk 8 (D.tup [.str "distances"])) = true := by
        simp [dOk_str _ okShort, dOk_str _ okDist]
      rw [if_pos this]
    | none =>
      have hp : ∀ i j, i < j → j < n → 0 < t i j := fun i j hij hj => by
        have := List.find?_eq_none.mp c1 (i, j) (mem_prs.mpr ⟨hij, hj⟩)
        have h0 := h.lo i j (by omega) hj
        simp at this
        omega
      have ht : ∀ i j k, i < j → j < n → k < n → t i j ≤ t i k + t k j := fun i j k hij hj hk => by
        have a := List.find?_eq_none.mp c2 (i, j) (mem_prs.mpr ⟨hij, hj⟩)
        have b : shAt n t (i, j) = none := by
          cases c : shAt n t (i, j) with
          | none => rfl
          | some k => rw [c] at a; simp at a
        have b : (List.range n).find? (fun k => decide (t i k + t k j < t i j)) = none := b
        have := List.find?_eq_none.mp b k (List.mem_range.mpr hk)
        simp at this
        omega
      have hD : Dist n t := ⟨h, fun i j hi hj hij => by
        rcases Nat.lt_or_gt_of_ne hij with c | c
        · exact hp i j c hj
        · rw [h.sy i j hi hj]; exact hp j i c hi, fun i j k hi hj hk => by
        rcases Nat.lt_trichotomy i j with c | c | c
        · exact ht i j k c hj hk
        · subst c
          have := h.lo i k hi hk
          have := h.lo k i hk hi
          rw [h.dg i hi]; omega
        · have := ht j i k c hi hk
          rw [h.sy i j hi hj, h.sy i k hi hk, h.sy k j hk hj]; omega⟩
      rw [decide_eq_true (hP.mp hD)]
      exact eq_self' rfl (by simp [dOk_str _ okDist])
theorem wide_tab (h : Tab n t) (h8 : n < 8) (hr : ∀ i, i < n → 0 ≤ r i ∧ r i ≤ 1000) : Tab (n + 1) (wide n t r) := by
  have w1 : ∀ i j, i < n → j < n → wide n t r i j = t i j := fun i j hi hj => by simp [wide, hi, hj]
  have w2 : ∀ i, i < n → wide n t r i n = r i := fun i hi => by simp [wide, hi]
  have w3 : ∀ j, j < n → wide n t r n j = r j := fun j hj => by simp [wide, hj]
  have w4 : wide n t r n n = 0 := by simp [wide]
  have cs : ∀ i, i < n + 1 → i < n ∨ i = n := fun i hi => by omega
  refine ⟨by omega, by omega, fun i j hi hj => ?_, fun i j hi hj => ?_, fun i hi => ?_, fun i j hi hj => ?_⟩
  · rcases cs i hi with hi | rfl <;> rcases cs j hj with hj | rfl
    · rw [w1 i j hi hj]; exact h.lo i j hi hj
    · rw [w2 i hi]; exact (hr i hi).1
    · rw [w3 j hj]; exact (hr j hj).1
    · rw [w4]; omega
  · rcases cs i hi with hi | rfl <;> rcases cs j hj with hj | rfl
    · rw [w1 i j hi hj]; exact h.hi i j hi hj
    · rw [w2 i hi]; exact (hr i hi).2
    · rw [w3 j hj]; exact (hr j hj).2
    · rw [w4]; omega
  · rcases cs i hi with hi | rfl
    · rw [w1 i i hi hi]; exact h.dg i hi
    · exact w4
  · rcases cs i hi with hi | rfl <;> rcases cs j hj with hj | rfl
    · rw [w1 i j hi hj, w1 j i hj hi]; exact h.sy i j hi hj
    · rw [w2 i hi, w3 i hi]
    · rw [w3 j hj, w2 j hj]
    · rfl
end
end PF
set_option Elab.async false
set_option linter.all false
set_option maxRecDepth 100000
set_option maxHeartbeats 400000
/-! GD: equality of lists of numbers; two numbers in order; loops over fresh lists. -/
namespace PF
open PySem PySem.Spec PyProof.Rows L2 DL
theorem eqv_lst (xs ys : List D) : (D.lst xs).eqv (.lst ys) = PyData.eqvAll (pys xs) (pys ys) := by
  show PyData.eqv (D.lst xs).py (D.lst ys).py = _
  rw [D.py, D.py, PyData.eqv]
theorem dOk_lints (xs : List Int) : dOk 8 (.lst (xs.map .int)) = true := by
  show (xs.map D.int).all (dOk 7) = true
  rw [List.all_map]
  exact List.all_eq_true.mpr fun i _ => dOk_int 7 i
theorem eq_lints (xs ys : List Int) : dEq (.lst (xs.map .int)) (.lst (ys.map .int)) = some (.bl (decide (xs = ys))) := by
  unfold dEq
  rw [dOk_lints, dOk_lints, eqv_lst, eqvAll_ints]; rfl
theorem ne_lints (xs ys : List Int) : dNe (.lst (xs.map .int)) (.lst (ys.map .int)) = some (.bl (!decide (xs = ys))) := by
  unfold dNe
  rw [dOk_lints, dOk_lints, eqv_lst, eqvAll_ints]; rfl
theorem sort2 (x y : Int) : sortI [x, y] = if x ≤ y then [x, y] else [y, x] := by
  have p : List.Perm (if x ≤ y then [x, y] else [y, x]) [x, y] := by
    split
    · exact .refl _
    · exact .swap _ _ _
  have q : (if x ≤ y then [x, y] else [y, x]).Pairwise fun a b : Int => a ≤ b := by
    split
    · simp; omega
    · simp; omega
  exact perm_same ((sortI_perm _).trans p.symm) (sortI_sorted _) q fun a _ b _ h1 h2 => by omega
theorem bSort2 (x y : Int) : bSorted [.lst [.int x, .int y]] = some (.lst ((if x ≤ y then [x, y] else [y, x]).map .int)) := by
  rw [← sort2]; rfl
theorem _root_.DL.Yl.seqL {f : FE} {δ : Ev} {s s1 : Src} {ds : List D} (h : Yl (f δ s) (.lst ds) s1) : Yl (iSeqL f δ s) ds s1 := by
  unfold Yl at *
  rw [iSeqL_ap, h, Option.bind_some]; rfl
theorem mnF_congr {n : Nat} {f g : Nat → Int} (h : ∀ i, i < n → f i = g i) : mnF n f = mnF n g := by
  unfold mnF numL
  rw [List.map_congr_left fun i hi => h i (List.mem_range.mp hi)]
theorem mxF_congr {n : Nat} {f g : Nat → Int} (h : ∀ i, i < n → f i = g i) : mxF n f = mxF n g := by
  unfold mxF numL
  rw [List.map_congr_left fun i hi => h i (List.mem_range.mp hi)]
theorem _root_.DL.Yl.lst {fs : Ev → M (List D)} {δ : Ev} {s s1 : Src} {ds : List D} (h : Yl (fs δ s) ds s1) (hl : ds.length ≤ 1000000) : Yl (eLst fs δ s) (.lst ds) s1 := by
  unfold Yl at *
  simp [eLst, h, hl]
theorem _root_.DL.Yl.lf {f : FE} {δ : Ev} {s s1 : Src} {d : D} (h : Yl (f δ s) d s1) (hl : d.lf = true) : Yl (eLf f δ s) d s1 := by
  unfold Yl at *
  simp [eLf, h, hl]
end PF
set_option Elab.async false
set_option linter.all false
set_option maxRecDepth 100000
set_option maxHeartbeats 4000000
/-! PC: printed by gen2.py -/
namespace PF
open PySem PySem.Spec PyProof.Rows L2 DL
/-! _law_part -/
def c__law_part_1 : FE := (eLc (iSeq (eVar 1)) [3] (gN 3) bYes (e2 dIx (e2 dIx (eVar 0) (eVar 2)) (eVar 3)))
def c__law_part_2 : FE := (eLc (iSeq (eVar 1)) [2] (gN 2) bYes (eCall bTup (eAs c__law_part_1 eAs0)))
def g__law_part : FS := (sRet (eCall bTup (eAs c__law_part_2 eAs0)))
def F__law_part : List D → M D := run 4 g__law_part
theorem R__law_part {a0 a1 d : D} {s s1 : Src} (h : Yl (g__law_part [.rd a0, .rd a1, .no, .no] s) (.rt d) s1) : Yl (F__law_part [a0, a1] s) d s1 := run_rt h
theorem N__law_part {a0 a1 : D} {δ : Ev} {s s1 : Src} (h : Yl (g__law_part [.rd a0, .rd a1, .no, .no] s) (.nx δ) s1) : Yl (F__law_part [a0, a1] s) .non s1 := run_nx h
end PF
set_option Elab.async false
set_option linter.all false
set_option maxRecDepth 100000
set_option maxHeartbeats 400000
/-! GE: parts of tables, lists of names, tables put together are distances. -/
namespace PF
open PySem PySem.Spec PyProof.Rows L2 DL
/-! lists of names -/
def lN (l : List Nat) : D := vL l.length fun i => .int ((l.getD i 0 : Nat) : Int)
theorem lN_map (l : List Nat) : D.lst (l.map fun i => D.int ((i : Nat) : Int)) = lN l := congrArg D.lst (seqF_ext (by simp) fun i hi => by
  rw [List.getElem?_map, List.getElem?_eq_getElem hi]
  simp [List.getD, hi])
theorem lN_items (l : List Nat) : lN l = .lst (l.map fun i => D.int ((i : Nat) : Int)) := (lN_map l).symm
theorem lN_range (n : Nat) : (vL n fun i => D.int ((i : Nat) : Int)) = lN (List.range n) := by
  rw [lN_items]; rfl
theorem getD_mem {l : List Nat} {i : Nat} (h : i < l.length) : l.getD i 0 ∈ l := by
  simp [List.getD, h]
theorem getD_inj {l : List Nat} (hn : l.Nodup) {i j : Nat} (hi : i < l.length) (hj : j < l.length) (e : l.getD i 0 = l.getD j 0) : i = j := by
  simp [List.getD, hi, hj] at e
  have q := List.pairwise_iff_getElem.mp hn
  rcases Nat.lt_trichotomy i j with c | c | c
  · exact absurd e (q i j hi hj c)
  · exact c
  · exact absurd e.symm (q j i hj hi c)
theorem getD_app1 {a b : List Nat} {i : Nat} (h : i < a.length) : (a ++ b).getD i 0 = a.getD i 0 := by
  simp [List.getD, h, List.getElem?_append_left]
theorem getD_app2 {a b : List Nat} {i : Nat} (h : a.length ≤ i) : (a ++ b).getD i 0 = b.getD (i - a.length) 0 := by
  simp [List.getD, List.getElem?_append_right h]
theorem getD_range {k i : Nat} (h : i < k) : (List.range k).getD i 0 = i := by simp [List.getD, h]
theorem eqF_nat (y x : Nat) : eqF (.int (y : Nat)) (.int (x : Nat)) = decide (y = x) := by
  show ((y : Int) == (x : Int)) = _
  rw [Bool.eq_iff_iff, beq_iff_eq, decide_eq_true_eq]
  omega
theorem flat_lN (l : List Nat) : (l.map fun i => D.int ((i : Nat) : Int)).all flatD = true := by
  rw [List.all_map]
  exact List.all_eq_true.mpr fun _ _ => rfl
theorem inD_lN (x : Nat) (l : List Nat) : inD (.int (x : Nat)) (l.map fun i => D.int ((i : Nat) : Int)) = decide (x ∈ l) := by
  unfold inD
  rw [List.any_map, Bool.eq_iff_iff, List.any_eq_true, decide_eq_true_eq]
  constructor
  · rintro ⟨y, hy, e⟩
    have e : eqF (.int (y : Nat)) (.int (x : Nat)) = true := e
    rw [eqF_nat, decide_eq_true_eq] at e
    exact e ▸ hy
  · intro h
    exact ⟨x, h, by show eqF (.int (x : Nat)) (.int (x : Nat)) = true; rw [eqF_nat]; simp⟩
theorem in_lN (x : Nat) (l : List Nat) : dIn (.int (x : Nat)) (lN l) = some (.bl (decide (x ∈ l))) := by
  rw [lN_items]
  show (if (flatD (.int (x : Nat)) && (l.map fun i => D.int ((i : Nat) : Int)).all flatD) = true then _ else _) = _
  rw [flat_lN, if_pos (show (flatD (.int (x : Nat)) && true) = true from rfl), inD_lN]
theorem notIn_lN (x : Nat) (l : List Nat) : dNotIn (.int (x : Nat)) (lN l) = some (.bl (!decide (x ∈ l))) := by
  rw [lN_items]
  show (if (flatD (.int (x : Nat)) && (l.map fun i => D.int ((i : Nat) : Int)).all flatD) = true then _ else _) = _
  rw [flat_lN, if_pos (show (flatD (.int (x : Nat)) && true) = true from rfl), inD_lN]
theorem index_lN {x : Nat} {l : List Nat} (h : x ∈ l) : ∃ j, j < l.length ∧ l.getD j 0 = x ∧ mIndex (lN l) (.int (x : Nat)) = some (.int (j : Nat)) := by
  have e : ((l.map fun i => D.int ((i : Nat) : Int)).findIdx? fun y => eqF y (.int (x : Nat))) = l.findIdx? fun y => decide (y = x) := by
    rw [List.findIdx?_map]
    congr 1
    funext y
    exact eqF_nat y x
  obtain ⟨j, hj⟩ : ∃ j, (l.findIdx? fun y => decide (y = x)) = some j := by
    cases c : l.findIdx? fun y => decide (y = x) with
    | some j => exact ⟨j, rfl⟩
    | none =>
      have := List.findIdx?_eq_none_iff.mp c x h
      simp at this
  obtain ⟨h1, h2, _⟩ := List.findIdx?_eq_some_iff_getElem.mp hj
  refine ⟨j, h1, by simp at h2; simp [List.getD, h1, h2], ?_⟩
  rw [lN_items]
  show (if (flatD (.int (x : Nat)) && (l.map fun i => D.int ((i : Nat) : Int)).all flatD) = true then _ else _) = _
  rw [flat_lN, if_pos (show (flatD (.int (x : Nat)) && true) = true from rfl), e, hj]; rfl
theorem cat_lN {a b : List Nat} (h : a.length + b.length ≤ 1000) : catF (lN a) (lN b) = some (lN (a ++ b)) := by
  rw [lN, lN, catF_F h, lN, List.length_append]
  refine congrArg some (vL_congr fun i hi => ?_)
  by_cases h1 : i < a.length
  · rw [if_pos h1, getD_app1 h1]
  · rw [if_neg h1, getD_app2 (by omega)]
/-- what is drawn to be taken -/
theorem _root_.DL.Yl.lcN {h : FI} {vs : List Nat} {g : D → Ev → Option Ev} {tt : Ev → M Bool} {te : FE} {δ : Ev} {s s1 : Src} {l : List Nat} (h1 : Yl (h δ s) (l.map fun i => D.int ((i : Nat) : Int)) s1) (hn : l.length ≤ 1000000)
    (hb : ∀ a, a ∈ l → ∀ s, ∃ (b : Bool) (s' : Src) (δ1 : Ev), g (.int (a : Nat)) (wipeE δ vs) = some δ1 ∧ Yl (tt δ1 s) b s' ∧ (b = true → Yl (te δ1 s') (.int (a : Nat)) s')) :
    ∃ (one : List Nat) (s' : Src), List.Sublist one l ∧ Yl (eLc h vs g tt te δ s) (lN one) s' := by
  obtain ⟨p, s', hl, e⟩ := cLp_drawI (vs := vs) (g := g) (tt := tt) (te := te) (δ := δ) (fun i : Nat => D.int (i : Int)) (fun i : Nat => D.int (i : Int)) l s1 hb
  refine ⟨((l.zip p).filter fun q => q.2).map fun q => q.1, s', ?_, ?_⟩
  · have : (l.zip p).map Prod.fst = l := List.map_fst_zip (by omega)
    have h2 := (List.filter_sublist (p := fun q : Nat × Bool => q.2) (l := l.zip p)).map Prod.fst
    rw [this] at h2
    exact h2
  · have := lc_eq (h := h) (vs := vs) (g := g) (tt := tt) (te := te) (δ := δ) (s := s) (s1 := s1) h1.eq (by rw [List.length_map]; exact hn) e
    rw [← lN_map, List.map_map]
    exact this
theorem sub_filter : ∀ {a l : List Nat}, List.Sublist a l → l.Nodup → l.filter (fun x => decide (x ∈ a)) = a
  | _, _, .slnil, _ => rfl
  | a, x :: l, .cons _ h, hn => by
    have hx : x ∉ a := fun z => (List.nodup_cons.mp hn).1 (h.subset z)
    rw [List.filter_cons_of_neg (by simp [hx])]
    exact sub_filter h (List.nodup_cons.mp hn).2
  | x :: a, _ :: l, .cons_cons _ h, hn => by
    have hx := (List.nodup_cons.mp hn).1
    rw [List.filter_cons_of_pos (by simp)]
    congr 1
    have e : l.filter (fun y => decide (y ∈ x :: a)) = l.filter (fun y => decide (y ∈ a)) := List.filter_congr fun y hy => by
      have : y ≠ x := fun z => hx (z ▸ hy)
      simp [this]
    rw [e]
    exact sub_filter h (List.nodup_cons.mp hn).2
theorem len_split {α : Type} (p : α → Bool) : ∀ l : List α, (l.filter p).length + (l.filter fun x => !p x).length = l.length
  | [] => rfl
  | x :: l => by
    have := len_split p l
    cases c : p x with
    | true => rw [List.filter_cons_of_pos c, List.filter_cons_of_neg (by simp [c]), List.length_cons, List.length_cons]; omega
    | false => rw [List.filter_cons_of_neg (by simp [c]), List.filter_cons_of_pos (by simp [c]), List.length_cons, List.length_cons]; omega
section
variable {n m k : Nat} {t u : Nat → Nat → Int} {s : Src}
/-! parts -/
theorem partF {σ : Nat → Nat} (hm : m ≤ 1000) (h : ∀ i, i < m → σ i < n) : F__law_part [tF n t, vL m fun i => .int ((σ i : Nat) : Int)] s = some (tF m fun i j => t (σ i) (σ j), s) := by
  refine R__law_part (.ret (.call (.as1 (d := vL m fun i => rF m fun j => t (σ i) (σ j)) ?_) (by simp)))
  unfold c__law_part_2
  refine .lc (s1 := s) (f := fun i => .int ((σ i : Nat) : Int)) (by simp) (by omega) fun i hi => ⟨_, rfl, rfl, ?_⟩
  refine .call (.as1 (d := vL m fun j => .int (t (σ i) (σ j))) ?_) (by simp)
  unfold c__law_part_1
  refine .lc (s1 := s) (f := fun i => .int ((σ i : Nat) : Int)) (by simp) (by omega) fun j hj => ⟨_, rfl, rfl, ?_⟩
  have a := h i hi
  have b := h j hj
  simp (disch := omega)
theorem dist_sub {σ : Nat → Nat} (h : Dist n t) (m1 : 1 ≤ m) (m8 : m ≤ 8) (h1 : ∀ i, i < m → σ i < n) (h2 : ∀ i j, i < m → j < m → σ i = σ j → i = j) : Dist m fun i j => t (σ i) (σ j) :=
  ⟨⟨m1, m8, fun i j hi hj => h.lo _ _ (h1 i hi) (h1 j hj), fun i j hi hj => h.hi _ _ (h1 i hi) (h1 j hj), fun i hi => h.dg _ (h1 i hi), fun i j hi hj => h.sy _ _ (h1 i hi) (h1 j hj)⟩,
    fun i j hi hj hij => h.ps _ _ (h1 i hi) (h1 j hj) fun e => hij (h2 i j hi hj e), fun i j k hi hj hk => h.tr _ _ _ (h1 i hi) (h1 j hj) (h1 k hk)⟩
theorem dist_first (h : Dist n t) (m1 : 1 ≤ m) (hm : m ≤ n) : Dist m t := dist_sub (σ := fun i => i) h m1 (by have := h.n8; omega) (fun i hi => by omega) fun i j _ _ e => e
theorem fit_line (h : Dist n t) (hm : m ≤ n) {x : Nat} (hx : x < n) (hx2 : m ≤ x) : Fit m t (t x) :=
  ⟨fun i hi => ⟨h.ps x i hx (by omega) (by omega), h.hi x i hx (by omega)⟩, fun i j hi hj _ => by
    have := h.tr i j x (by omega) (by omega) hx
    rw [h.sy i x (by omega) hx] at this
    exact this, fun i j hi hj _ => by
    have := h.tr x i j hx (by omega) (by omega)
    rw [h.sy j i (by omega) (by omega)] at this
    exact this⟩
/-! tables put together are distances -/
theorem st_le (i j : Nat) {a : Nat} (ha : a < k) : stF k t u i j ≤ t i a + u a j := mnF_le (f := fun a => t i a + u a j) ha
theorem st_in (hk : 0 < k) (i j : Nat) : ∃ a, a < k ∧ stF k t u i j = t i a + u a j := by
  obtain ⟨a, ha, e⟩ := mnF_in (fun a => t i a + u a j) hk
  exact ⟨a, ha, e.symm⟩
theorem glued_dist (h : Shd n m k t u) (hb : ∀ i j, i < n → k ≤ j → j < m → stF k t u i j ≤ 1000) : Dist (n + (m - k)) (glF n k t u (stF k t u)) := by
  obtain ⟨dt, du, k1, kn, km, eq, h8⟩ := h
  have kk : 0 < k := k1
  have g1 : ∀ i j, i < n → j < n → glF n k t u (stF k t u) i j = t i j := fun i j hi hj => by simp [glF, hi, hj]
  have g2 : ∀ i j, i < n → ¬ j < n → glF n k t u (stF k t u) i j = stF k t u i (k + (j - n)) := fun i j hi hj => by simp [glF, hi, hj]
  have g3 : ∀ i j, ¬ i < n → j < n → glF n k t u (stF k t u) i j = stF k t u j (k + (i - n)) := fun i j hi hj => by simp [glF, hi, hj]
  have g4 : ∀ i j, ¬ i < n → ¬ j < n → glF n k t u (stF k t u) i j = u (k + (i - n)) (k + (j - n)) := fun i j hi hj => by simp [glF, hi, hj]
  -- with the first table's points, with the other's
  have P1 : ∀ i j y, i < n → j < n → k ≤ y → y < m → stF k t u i y ≤ t i j + stF k t u j y := fun i j y hi hj hy hy2 => by
    obtain ⟨a, ha, e⟩ := st_in (t := t) (u := u) kk j y
    have := st_le (t := t) (u := u) i y ha
    have := dt.tr i a j hi (by omega) hj
    omega
  have P2 : ∀ i y z, i < n → k ≤ y → y < m → k ≤ z → z < m → stF k t u i y ≤ stF k t u i z + u z y := fun i y z hi hy hy2 hz hz2 => by
    obtain ⟨a, ha, e⟩ := st_in (t := t) (u := u) kk i z
    have := st_le (t := t) (u := u) i y ha
    have := du.tr a y z (by omega) hy2 hz2
    omega
  have P3 : ∀ i j y, i < n → j < n → k ≤ y → y < m → t i j ≤ stF k t u i y + stF k t u j y := fun i j y hi hj hy hy2 => by
    obtain ⟨a, ha, e⟩ := st_in (t := t) (u := u) kk i y
    obtain ⟨b, hb, e2⟩ := st_in (t := t) (u := u) kk j y
    have q1 := dt.tr i j a hi hj (by omega)
    have q2 := dt.tr a j b (by omega) hj (by omega)
    have q3 := du.tr a b y (by omega) (by omega) hy2
    rw [eq a b ha hb] at q2
    rw [du.sy y b hy2 (by omega)] at q3
    rw [dt.sy b j (by omega) hj] at q2
    omega
  have P4 : ∀ i y z, i < n → k ≤ y → y < m → k ≤ z → z < m → u y z ≤ stF k t u i y + stF k t u i z := fun i y z hi hy hy2 hz hz2 => by
    obtain ⟨a, ha, e⟩ := st_in (t := t) (u := u) kk i y
    obtain ⟨b, hb, e2⟩ := st_in (t := t) (u := u) kk i z
    have q1 := du.tr y z a hy2 hz2 (by omega)
    have q2 := du.tr a z b (by omega) hz2 (by omega)
    have q3 := dt.tr a b i (by omega) (by omega) hi
    rw [← eq a b ha hb] at q2
    rw [dt.sy a i (by omega) hi] at q3
    rw [du.sy y a hy2 (by omega)] at q1
    omega
  have P0 : ∀ i y, i < n → k ≤ y → y < m → 0 < stF k t u i y := fun i y hi hy hy2 => by
    obtain ⟨a, ha, e⟩ := st_in (t := t) (u := u) kk i y
    have := dt.lo i a hi (by omega)
    have := du.ps a y (by omega) hy2 (by omega)
    omega
  refine ⟨⟨by omega, by omega, fun i j hi hj => ?_, fun i j hi hj => ?_, fun i hi => ?_, fun i j hi hj => ?_⟩, fun i j hi hj hij => ?_, fun i j l hi hj hl => ?_⟩
  · by_cases c1 : i < n <;> by_cases c2 : j < n
    · rw [g1 i j c1 c2]; exact dt.lo i j c1 c2
    · rw [g2 i j c1 c2]; have := P0 i (k + (j - n)) c1 (by omega) (by omega); omega
    · rw [g3 i j c1 c2]; have := P0 j (k + (i - n)) c2 (by omega) (by omega); omega
    · rw [g4 i j c1 c2]; exact du.lo _ _ (by omega) (by omega)
  · by_cases c1 : i < n <;> by_cases c2 : j < n
    · rw [g1 i j c1 c2]; exact dt.hi i j c1 c2
    · rw [g2 i j c1 c2]; exact hb i _ c1 (by omega) (by omega)
    · rw [g3 i j c1 c2]; exact hb j _ c2 (by omega) (by omega)
    · rw [g4 i j c1 c2]; exact du.hi _ _ (by omega) (by omega)
  · by_cases c1 : i < n
    · rw [g1 i i c1 c1]; exact dt.dg i c1
    · rw [g4 i i c1 c1]; exact du.dg _ (by omega)
  · by_cases c1 : i < n <;> by_cases c2 : j < n
    · rw [g1 i j c1 c2, g1 j i c2 c1]; exact dt.sy i j c1 c2
    · rw [g2 i j c1 c2, g3 j i c2 c1]
    · rw [g3 i j c1 c2, g2 j i c2 c1]
    · rw [g4 i j c1 c2, g4 j i c2 c1]; exact du.sy _ _ (by omega) (by omega)
  · by_cases c1 : i < n <;> by_cases c2 : j < n
    · rw [g1 i j c1 c2]; exact dt.ps i j c1 c2 hij
    · rw [g2 i j c1 c2]; exact P0 i (k + (j - n)) c1 (by omega) (by omega)
    · rw [g3 i j c1 c2]; exact P0 j (k + (i - n)) c2 (by omega) (by omega)
    · rw [g4 i j c1 c2]; exact du.ps _ _ (by omega) (by omega) (by omega)
  · by_cases c1 : i < n <;> by_cases c2 : j < n <;> by_cases c3 : l < n
    · rw [g1 i j c1 c2, g1 i l c1 c3, g1 l j c3 c2]; exact dt.tr i j l c1 c2 c3
    · rw [g1 i j c1 c2, g2 i l c1 c3, g3 l j c3 c2]; exact P3 i j _ c1 c2 (by omega) (by omega)
    · rw [g2 i j c1 c2, g1 i l c1 c3, g2 l j c3 c2]; exact P1 i l _ c1 c3 (by omega) (by omega)
    · rw [g2 i j c1 c2, g2 i l c1 c3, g4 l j c3 c2]; exact P2 i _ _ c1 (by omega) (by omega) (by omega) (by omega)
    · rw [g3 i j c1 c2, g3 i l c1 c3, g1 l j c3 c2]
      have := P1 j l (k + (i - n)) c2 c3 (by omega) (by omega)
      rw [dt.sy l j c3 c2]; omega
    · rw [g3 i j c1 c2, g4 i l c1 c3, g3 l j c3 c2]
      have := P2 j (k + (i - n)) (k + (l - n)) c2 (by omega) (by omega) (by omega) (by omega)
      rw [du.sy (k + (i - n)) (k + (l - n)) (by omega) (by omega)]; omega
    · rw [g4 i j c1 c2, g3 i l c1 c3, g2 l j c3 c2]; exact P4 l _ _ c3 (by omega) (by omega) (by omega) (by omega)
    · rw [g4 i j c1 c2, g4 i l c1 c3, g4 l j c3 c2]; exact du.tr _ _ _ (by omega) (by omega) (by omega)
end
end PF
set_option Elab.async false
set_option linter.all false
set_option maxRecDepth 100000
set_option maxHeartbeats 4000000
/-! PD: printed by gen2.py -/
namespace PF
open PySem PySem.Spec PyProof.Rows L2 DL
/-! between -/
def c_between_1 : FE := (eLc (iRng (eVar 3)) [4] (gN 4) (bOf (e2 dEq (e2 dAdd (e2 dIx (e2 dIx (eVar 0) (eVar 1)) (eVar 4)) (e2 dIx (e2 dIx (eVar 0) (eVar 4)) (eVar 2))) (e2 dIx (e2 dIx (eVar 0) (eVar 1)) (eVar 2)))) (eVar 4))
def g_between : FS := (sSeq (sExp (eFn (fun ds => if ds.length = 1 then F_check_table ds else M.no) (eAs (eVar 0) eAs0)))
  (sSeq (sSet 3 (eCall bRng (eAs (eCall bLen (eAs (eVar 0) eAs0)) eAs0)))
  (sRet (eCall bTup (eAs c_between_1 eAs0)))))
def F_between : List D → M D := run 5 g_between
theorem R_between {a0 a1 a2 d : D} {s s1 : Src} (h : Yl (g_between [.rd a0, .rd a1, .rd a2, .no, .no] s) (.rt d) s1) : Yl (F_between [a0, a1, a2] s) d s1 := run_rt h
theorem N_between {a0 a1 a2 : D} {δ : Ev} {s s1 : Src} (h : Yl (g_between [.rd a0, .rd a1, .rd a2, .no, .no] s) (.nx δ) s1) : Yl (F_between [a0, a1, a2] s) .non s1 := run_nx h
/-! below -/
def c_below_1 : FE := (eLc (iSeq (eVar 0)) [5] (gN 5) bYes (eCall bListF (eAs (eVar 5) eAs0)))
def b_below_2 : FS := (sSub2 1 (eVar 3) (eVar 4) (eCall bMin2 (eAs (e2 dIx (e2 dIx (eVar 1) (eVar 3)) (eVar 4)) (eAs (eCall bMax2 (eAs (e2 dIx (e2 dIx (eVar 1) (eVar 3)) (eVar 2)) (eAs (e2 dIx (e2 dIx (eVar 1) (eVar 2)) (eVar 4)) eAs0))) eAs0))))
def b_below_3 : FS := (sFor (iOf rg1 (eAs (eCall bLen (eAs (eVar 1) eAs0)) eAs0)) (gN 4) b_below_2)
def b_below_4 : FS := (sFor (iOf rg1 (eAs (eCall bLen (eAs (eVar 1) eAs0)) eAs0)) (gN 3) b_below_3)
def c_below_5 : FE := (eLc (iSeq (eVar 1)) [5] (gN 5) bYes (eCall bTup (eAs (eVar 5) eAs0)))
def g_below : FS := (sSeq (sExp (eFn (fun ds => if ds.length = 1 then F_check_table ds else M.no) (eAs (eVar 0) eAs0)))
  (sSeq (sOwn 1 c_below_1)
  (sSeq (sFor (iOf rg1 (eAs (eCall bLen (eAs (eVar 1) eAs0)) eAs0)) (gN 2) b_below_4)
  (sRet (eCall bTup (eAs c_below_5 eAs0))))))
def F_below : List D → M D := run 6 g_below
theorem R_below {a0 d : D} {s s1 : Src} (h : Yl (g_below [.rd a0, .no, .no, .no, .no, .no] s) (.rt d) s1) : Yl (F_below [a0] s) d s1 := run_rt h
theorem N_below {a0 : D} {δ : Ev} {s s1 : Src} (h : Yl (g_below [.rd a0, .no, .no, .no, .no, .no] s) (.nx δ) s1) : Yl (F_below [a0] s) .non s1 := run_nx h
end PF
set_option Elab.async false
set_option linter.all false
set_option maxRecDepth 100000
set_option maxHeartbeats 400000
/-! GF: below, between (printed by mkgf.py). -/
namespace PF
open PySem PySem.Spec PyProof.Rows L2 DL
theorem below_loops {n : Nat} {q : Nat → Nat → Int} (hn : n ≤ 1000) (h : Ev0 n q) {T : D} {A B C : Sl} {s : Src} : Yx (sFor (iOf rg1 (eAs (eCall bLen (eAs (eVar 1) eAs0)) eAs0)) (gN 2) b_below_4 [.rd T, .ow (vL n fun a => vL n fun b => .int (q a b)), A, B, C, .no] s) (fun δ s' => s' = s ∧ ∃ A B C, δ = [.rd T, .ow (vL n fun a => vL n fun b => .int (fl (fun x y : Int => max x y) q n a b)), A, B, C, .no]) := by
  have rn : rg1 [.int (n : Nat)] = some (seqF n fun i => .int (i : Nat)) := rg1_F (by omega)
  refine Yl.for_ (n := n) (f := fun i => .int (i : Nat)) (s1 := s) (fun k δ s' => s' = s ∧ ∃ A B C, δ = [.rd T, .ow (vL n fun a => vL n fun b => .int (fl (fun x y : Int => max x y) q k a b)), A, B, C, .no]) (by simp [rn]) ⟨rfl, _, _, _, rfl⟩ ?_
  rintro k δ s' hk ⟨rfl, A, B, C, rfl⟩
  refine ⟨rfl, _, rfl, ?_⟩
  have E := fl_ev op_max h k (by omega)
  have en : fl (fun x y : Int => max x y) q (k + 1) = rl (fun x y : Int => max x y) (fl (fun x y : Int => max x y) q k) k := rfl
  rw [en]
  generalize fl (fun x y : Int => max x y) q k = r at E ⊢
  unfold b_below_4
  refine .imp (Yl.for_ (n := n) (f := fun i => .int (i : Nat)) (s1 := s') (fun i δ s => s = s' ∧ ∃ B C, δ = [.rd T, .ow (vL n fun a => vL n fun b => .int (part (fun x y : Int => max x y) r k i 0 a b)), .rd (.int (k : Nat)), B, C, .no]) (by simp [rn]) ⟨rfl, B, C, by rw [part_start]; rfl⟩ ?_) ?_
  · rintro i δ s hi ⟨rfl, B, C, rfl⟩
    refine ⟨rfl, _, rfl, ?_⟩
    unfold b_below_3
    refine .imp (Yl.for_ (n := n) (f := fun i => .int (i : Nat)) (s1 := s) (fun j δ s' => s' = s ∧ ∃ C, δ = [.rd T, .ow (vL n fun a => vL n fun b => .int (part (fun x y : Int => max x y) r k i j a b)), .rd (.int (k : Nat)), .rd (.int (i : Nat)), C, .no]) (by simp [rn]) ⟨rfl, C, rfl⟩ ?_) ?_
    · rintro j δ s' hj ⟨rfl, C, rfl⟩
      refine ⟨rfl, _, rfl, ?_⟩
      unfold b_below_2
      refine .mk (Yl.sub2 (i := 1) (n := n) (m := n) (q := fun a b => .int (part (fun x y : Int => max x y) r k i j a b)) (a := i) (b := j) (v := .int (min (part (fun x y : Int => max x y) r k i j i j) ((fun x y : Int => max x y) (part (fun x y : Int => max x y) r k i j i k) (part (fun x y : Int => max x y) r k i j k j)))) (s1 := s') rfl hi hj (fun _ _ => rfl) rfl ?_ (by simp) (by simp)) ⟨rfl, .rd (.int (j : Nat)), ?_⟩
      · simp (disch := omega)
      · have e : (fun a => vL n fun b => if a = i ∧ b = j then D.int (min (part (fun x y : Int => max x y) r k i j i j) ((fun x y : Int => max x y) (part (fun x y : Int => max x y) r k i j i k) (part (fun x y : Int => max x y) r k i j k j))) else D.int (part (fun x y : Int => max x y) r k i j a b)) = fun a => vL n fun b => D.int (part (fun x y : Int => max x y) r k i (j + 1) a b) := by
          funext a
          refine vL_congr fun b _ => ?_
          rw [← part_step op_max E hk hi hj]
          split <;> rfl
        simp only [List.set_cons_succ, List.set_cons_zero, e]
    · rintro δ s' ⟨rfl, C, rfl⟩
      refine ⟨rfl, .rd (.int (i : Nat)), C, ?_⟩
      have e : (vL n fun a => vL n fun b => D.int (part (fun x y : Int => max x y) r k i n a b)) = vL n fun a => vL n fun b => D.int (part (fun x y : Int => max x y) r k (i + 1) 0 a b) := vL_congr fun a _ => vL_congr fun b hb => by rw [part_next hb]
      rw [e]
  · rintro δ s ⟨rfl, B, C, rfl⟩
    refine ⟨rfl, .rd (.int (k : Nat)), B, C, ?_⟩
    have e : (vL n fun a => vL n fun b => D.int (part (fun x y : Int => max x y) r k n 0 a b)) = vL n fun a => vL n fun b => D.int (rl (fun x y : Int => max x y) r k a b) := vL_congr fun a ha => vL_congr fun b _ => by rw [part_end ha]
    rw [e]
section
variable {n : Nat} {t : Nat → Nat → Int} {s : Src}
theorem Tab.ev0 (h : Tab n t) : Ev0 n t := ⟨h.dg, h.sy, h.lo⟩
theorem below (h : Tab n t) : F_below [tF n t] s = some (tF n (fl (fun x y => max x y) t n), s) := by
  have n8 := h.n8
  refine R_below ?_
  unfold g_below
  refine .seq (.exp (d := .non) (by simp [chkT h])) (.seq (.own (d := vL n fun a => vL n fun b => .int (t a b)) ?_) (.then_ (below_loops (by omega) h.ev0) ?_))
  · unfold c_below_1
    exact .lc (s1 := s) (f := fun i => rF n (t i)) (by simp) (by omega) fun i hi => ⟨_, rfl, rfl, by simp⟩
  · rintro δ s' ⟨rfl, A, B, C, rfl⟩
    refine .ret (.call (.as1 (d := vL n fun a => rF n (fl (fun x y => max x y) t n a)) ?_) (by simp))
    unfold c_below_5
    exact .lc (s1 := s') (f := fun i => vL n fun b => .int (fl (fun x y => max x y) t n i b)) (by simp) (by omega) fun i hi => ⟨_, rfl, rfl, by simp⟩
theorem between (h : Tab n t) {y z : Nat} (hy : y < n) (hz : z < n) : F_between [tF n t, .int (y : Nat), .int (z : Nat)] s = some (pL (wh n fun a => decide (t y a + t a z = t y z)), s) := by
  have n8 := h.n8
  refine R_between ?_
  unfold g_between
  refine .seq (.exp (d := .non) (by simp [chkT h])) (.seq (.set (d := .rng 0 (n : Nat)) (by simp (disch := omega)) rfl) (.ret (.call (.as1 (d := .lst ((wh n fun a => decide (t y a + t a z = t y z)).map fun i => .int (i : Nat))) ?_) rfl)))
  unfold c_between_1
  have rg := rngI1 (n := n) (by omega)
  refine .lcI (s1 := s) (l := List.range n) (f := fun i => .int (i : Nat)) (t := fun a => decide (t y a + t a z = t y z)) (by simp [rg]; rfl) (by simp; omega) fun a ha => ⟨_, rfl, ?_, fun _ => rfl⟩
  have := List.mem_range.mp ha
  simp (disch := omega)
end
end PF
set_option Elab.async false
set_option linter.all false
set_option maxRecDepth 100000
set_option maxHeartbeats 1000000
/-! GG: distances along trees: points between, four points, middles (plain). -/
namespace PF
section
variable {V : Nat → Prop} {es : List Edge} {m : Nat} {top : Int} {d : Nat → Nat → Int} {h : Nat → Nat → Nat}
/-- a step off is a step off for good -/
theorem Tre.off (T : Tre V es m top d h) {x z : Nat} (hx : V x) (hz : V z) : ∀ (N : Nat) (p c : Nat) (l : Int), h x p ≤ N → EE es p c l → d x p = d x c + l → d z c = d z p + l → d z x = d z p + d p x
  | N, p, c, l, hN, e, e1, e2 => by
    obtain ⟨vp, vc, l1, _, hpc⟩ := T.ei p c l e
    by_cases ec : c = x
    · subst ec
      have := T.d0 c vc
      have := T.sy c p hx vp
      omega
    · have px : p ≠ x := fun z => by
        subst z
        have := T.d0 p vp
        have := T.nn hx vc
        omega
      obtain ⟨c', l', e', f1, f2⟩ := T.nx x p hx vp px
      have ecc : c = c' := T.un x p c l c' l' hx e e' e1 f1
      subst ecc
      obtain ⟨c2, l2, e3, f3, f4⟩ := T.nx x c hx vc ec
      obtain ⟨_, vc2, l21, _, _⟩ := T.ei c c2 l2 e3
      cases N with
      | zero => omega
      | succ N =>
        rcases T.ed z c c2 l2 hz e3 with g | g
        · -- both p and c2 lie toward z
          have : p = c2 := T.un z c p l c2 l2 hz e.symm e3 e2 g
          subst this
          omega
        · have r := Tre.off T hx hz N c c2 l2 (by omega) e3 f3 g
          have s1 := T.sy c x vc hx
          have s2 := T.sy p x vp hx
          omega
/-- the point where the ways of three part -/
theorem Tre.med (T : Tre V es m top d h) {y z : Nat} (hy : V y) (hz : V z) : ∀ (N : Nat) (x : Nat), V x → h y x ≤ N → ∃ p, V p ∧ d x p + d p y = d x y ∧ d x p + d p z = d x z ∧ d y p + d p z = d y z
  | N, x, hx, hN => by
    by_cases ex : x = y
    · subst ex
      have := T.d0 x hx
      exact ⟨x, hx, by omega, by omega, by omega⟩
    · obtain ⟨c, l, e, f1, f2⟩ := T.nx y x hy hx ex
      obtain ⟨_, vc, l1, _, _⟩ := T.ei x c l e
      rcases T.ed z x c l hz e with g | g
      · cases N with
        | zero => omega
        | succ N =>
          obtain ⟨p, vp, a1, a2, a3⟩ := Tre.med T hy hz N c vc (by omega)
          have q1 := T.tr x p c hx vp vc
          have q2 := T.tr x y p hx hy vp
          have q3 := T.tr x z p hx hz vp
          have e1 : d x c = l := by
            rcases T.ed x x c l hx e with k | k
            · have := T.d0 x hx; have := T.nn hx vc; omega
            · have := T.d0 x hx; omega
          have s1 := T.sy x y hx hy
          have s2 := T.sy c y vc hy
          have s3 := T.sy x z hx hz
          have s4 := T.sy c z vc hz
          exact ⟨p, vp, by omega, by omega, a3⟩
      · have r := Tre.off T hy hz (h y x) x c l (Nat.le_refl _) e f1 g
        have := T.d0 x hx
        have s1 := T.sy z y hz hy
        have s2 := T.sy z x hz hx
        have s3 := T.sy x y hx hy
        exact ⟨x, hx, by omega, by omega, by omega⟩
/-- four points -/
theorem Tre.four (T : Tre V es m top d h) {x y u v : Nat} (hx : V x) (hy : V y) (hu : V u) (hv : V v) : d x y + d u v ≤ max (d x u + d y v) (d x v + d y u) := by
  obtain ⟨p, vp, a1, a2, a3⟩ := T.med hu hv (h u x) x hx (Nat.le_refl _)
  have q := T.tr x y p hx hy vp
  by_cases e : p = y
  · subst e
    have := T.sy p u vp hu
    omega
  · obtain ⟨c, l, e1, f1, f2⟩ := T.nx y p hy vp e
    obtain ⟨_, vc, l1, _, _⟩ := T.ei p c l e1
    have s1 := T.sy u p hu vp
    have s2 := T.sy v p hv vp
    have s3 := T.sy u y hu hy
    have s4 := T.sy v y hv hy
    rcases T.ed u p c l hu e1 with g | g
    · rcases T.ed v p c l hv e1 with k | k
      · have := T.tr u v c hu hv vc
        have := T.sy c v vc hv
        have := T.sy u v hu hv
        omega
      · have r := T.off hy hv (h y p) p c l (Nat.le_refl _) e1 f1 k
        have := T.sy u v hu hv
        omega
    · have r := T.off hy hu (h y p) p c l (Nat.le_refl _) e1 f1 g
      omega
end
end PF
set_option Elab.async false
set_option linter.all false
set_option maxRecDepth 100000
set_option maxHeartbeats 1000000
/-! GH: farthest points, centers, steps (plain); places of greatest numbers. -/
namespace PF
open PySem PySem.Spec PyProof.Rows L2 DL
section
variable {n : Nat} {es : List Edge} {m : Nat} {top : Int} {d : Nat → Nat → Int} {h : Nat → Nat → Nat}
def ecc (n : Nat) (d : Nat → Nat → Int) (i : Nat) : Int := mxF n (d i)
theorem ecc_ge {i j : Nat} (hj : j < n) : d i j ≤ ecc n d i := mxF_le (f := d i) hj
theorem ecc_in (h1 : 0 < n) (i : Nat) : ∃ j, j < n ∧ d i j = ecc n d i := mxF_in (d i) h1
theorem ecc_le (h1 : 0 < n) {i : Nat} {c : Int} (h : ∀ j, j < n → d i j ≤ c) : ecc n d i ≤ c := by
  obtain ⟨j, hj, e⟩ := ecc_in (d := d) h1 i
  rw [← e]; exact h j hj
variable (T : Tre (fun x => x < n) es m top d h)
include T
/-- the farthest point of any point -/
theorem Tre.sweep (h1 : 0 < n) {x y : Nat} (hx : x < n) (hy : y < n) (e : d x y = ecc n d x) : ecc n d y = mxF n (ecc n d) := by
  have a : ecc n d y ≤ mxF n (ecc n d) := mxF_le (f := ecc n d) hy
  obtain ⟨u, hu, eu⟩ := mxF_in (ecc n d) h1
  obtain ⟨v, hv, ev⟩ := ecc_in (d := d) h1 u
  have f := T.four (x := x) (y := y) (u := u) (v := v) hx hy hu hv
  have := ecc_ge (d := d) (i := x) hu
  have := ecc_ge (d := d) (i := x) hv
  have := ecc_ge (d := d) (i := y) hu
  have := ecc_ge (d := d) (i := y) hv
  omega
/-- on the longest way -/
theorem Tre.onway {y z p : Nat} (h1 : 0 < n) (hy : y < n) (hz : z < n) (hp : p < n) (e : d y z = mxF n (ecc n d)) : ecc n d p ≤ max (d p y) (d p z) := ecc_le h1 fun w hw => by
  have f := T.four (x := p) (y := w) (u := y) (v := z) hp hw hy hz
  have := ecc_ge (d := d) (i := w) hy
  have := ecc_ge (d := d) (i := w) hz
  have := mxF_le (f := ecc n d) hw
  omega
theorem Tre.center (h1 : 0 < n) {x y z : Nat} (hx : x < n) (hy : y < n) (hz : z < n) (e : d y z = mxF n (ecc n d)) (ex : ecc n d x = mnF n (ecc n d)) : d y x + d x z = d y z := by
  obtain ⟨p, vp, a1, a2, a3⟩ := T.med hy hz (h y x) x hx (Nat.le_refl _)
  have o := T.onway h1 hy hz vp e
  have b1 := ecc_ge (d := d) (i := x) hy
  have b2 := ecc_ge (d := d) (i := x) hz
  have b3 := mnF_le (f := ecc n d) vp
  by_cases ep : x = p
  · subst ep
    exact a3
  · have := T.ps x p hx vp ep
    omega
theorem Tre.halfway (h1 : 0 < n) {y z : Nat} {step : Int} (hy : y < n) (hz : z < n) (e : d y z = mxF n (ecc n d)) (h0 : 0 ≤ step) (hs : ∀ a b l, EE es a b l → l ≤ step) : ∀ (N p : Nat), p < n → h z p ≤ N → d y p + d p z = d y z → 2 * d y p ≤ d y z → 2 * mnF n (ecc n d) ≤ d y z + step
  | N, p, hp, hN, e1, e2 => by
    have o := T.onway h1 hy hz hp e
    have b3 := mnF_le (f := ecc n d) hp
    have s1 := T.sy p y hp hy
    by_cases ep : p = z
    · subst ep
      have := T.d0 p hp
      have := T.nn hy hp
      omega
    · obtain ⟨c, l, e3, f1, f2⟩ := T.nx z p hz hp ep
      obtain ⟨_, vc, l1, _, _⟩ := T.ei p c l e3
      have hl := hs p c l e3
      have s2 := T.sy z p hz hp
      have s3 := T.sy z c hz vc
      rcases T.ed y p c l hy e3 with g | g
      · have := T.tr y z c hy hz vc
        omega
      · by_cases c2 : 2 * d y c ≤ d y z
        · cases N with
          | zero => omega
          | succ N => exact Tre.halfway h1 hy hz e h0 hs N c vc (by omega) (by omega) c2
        · have o2 := T.onway h1 hy hz vc e
          have b4 := mnF_le (f := ecc n d) vc
          have s4 := T.sy c y vc hy
          omega
end
section
variable {n : Nat} {t : Nat → Nat → Int}
theorem ecc_two (h : Dist n t) : mnF n (ecc n t) ≤ mxF n (ecc n t) ∧ mxF n (ecc n t) ≤ 2 * mnF n (ecc n t) := by
  have n1 := h.n1
  obtain ⟨k, hk, ek⟩ := mnF_in (ecc n t) n1
  obtain ⟨i, hi, ei⟩ := mxF_in (ecc n t) n1
  obtain ⟨j, hj, ej⟩ := ecc_in (d := t) n1 i
  have a := h.tr i j k hi hj hk
  have b := ecc_ge (d := t) (i := k) hi
  have c := ecc_ge (d := t) (i := k) hj
  have e := h.sy i k hi hk
  have f := mxF_le (f := ecc n t) hk
  omega
theorem ecc_gap (h : Dist n t) {i j : Nat} (hi : i < n) (hj : j < n) : ecc n t i - ecc n t j ≤ t i j := by
  obtain ⟨k, hk, ek⟩ := ecc_in (d := t) h.n1 i
  have a := h.tr i k j hi hk hj
  have b := ecc_ge (d := t) (i := j) hk
  omega
/-- by levels: all points are equally wide -/
theorem ecc_level (h1 : 0 < n) (sy : ∀ i j, i < n → j < n → t i j = t j i) (ul : ∀ i j k, i < n → j < n → k < n → t i j ≤ max (t i k) (t k j)) {i : Nat} (hi : i < n) : ecc n t i = mxF n (ecc n t) := by
  have a := mxF_le (f := ecc n t) hi
  obtain ⟨u, hu, eu⟩ := mxF_in (ecc n t) h1
  obtain ⟨v, hv, ev⟩ := ecc_in (d := t) h1 u
  have b := ul u v i hu hv hi
  have c := ecc_ge (d := t) (i := i) hu
  have d := ecc_ge (d := t) (i := i) hv
  have e := sy u i hu hi
  omega
theorem intL_map : ∀ l : List Int, intL (l.map D.int) = some l
  | [] => rfl
  | a :: l => by
    rw [List.map_cons]
    show (intL (l.map D.int)).map (a :: ·) = _
    rw [intL_map l]; rfl
theorem indexK_F {f : Nat → Int} {k : Int} (hk : ∃ i, i < n ∧ f i = k) : ∃ y, y < n ∧ f y = k ∧ mIndexK (vK n fun j => .int (f j)) (.int k) = some (.int (y : Nat)) := by
  have e : seqF n (fun j => D.int (f j)) = ((List.range n).map f).map D.int := by
    unfold seqF
    rw [List.map_map]; rfl
  have hm : k ∈ (List.range n).map f := by
    obtain ⟨i, hi, e⟩ := hk
    exact List.mem_map.mpr ⟨i, List.mem_range.mpr hi, e⟩
  have hl := List.idxOf_lt_length_of_mem hm
  have hg : ((List.range n).map f)[((List.range n).map f).idxOf k] = k := List.getElem_idxOf hl
  have hl2 : ((List.range n).map f).idxOf k < n := by simpa using hl
  have hg2 : f (((List.range n).map f).idxOf k) = k := by
    have hg := hg
    rw [List.getElem_map, List.getElem_range] at hg
    exact hg
  refine ⟨((List.range n).map f).idxOf k, hl2, hg2, ?_⟩
  unfold vK
  rw [e]
  show (intL (((List.range n).map f).map D.int)).bind _ = _
  rw [intL_map, Option.bind_some, if_pos hm]
end
end PF
set_option Elab.async false
set_option linter.all false
set_option maxRecDepth 100000
set_option maxHeartbeats 4000000
/-! PE: printed by gen2.py -/
namespace PF
open PySem PySem.Spec PyProof.Rows L2 DL
/-! ball -/
def c_ball_1 : FE := (eLc (iOf en1 (eAs (e2 dIx (eVar 0) (eVar 1)) eAs0)) [3, 4] (gT 2 (gsC (gN 3) (gsC (gN 4) gs0))) (bOf (e2 dLe (eVar 4) (eVar 2))) (eVar 3))
def g_ball : FS := (sSeq (sExp (eFn (fun ds => if ds.length = 1 then F_check_table ds else M.no) (eAs (eVar 0) eAs0)))
  (sRet (eCall bTup (eAs c_ball_1 eAs0))))
def F_ball : List D → M D := run 5 g_ball
theorem R_ball {a0 a1 a2 d : D} {s s1 : Src} (h : Yl (g_ball [.rd a0, .rd a1, .rd a2, .no, .no] s) (.rt d) s1) : Yl (F_ball [a0, a1, a2] s) d s1 := run_rt h
theorem N_ball {a0 a1 a2 : D} {δ : Ev} {s s1 : Src} (h : Yl (g_ball [.rd a0, .rd a1, .rd a2, .no, .no] s) (.nx δ) s1) : Yl (F_ball [a0, a1, a2] s) .non s1 := run_nx h
/-! check_part -/
def c_check_part_1 : FE := (eLc (iSeq (eVar 1)) [2] (gN 2) bYes (eOr (eNot (eFn (fun ds => if ds.length = 1 then F_is_integer ds else M.no) (eAs (eVar 2) eAs0))) (eNot (eCh dLe dLt (eC (.int 0)) (eVar 2) (eCall bLen (eAs (eVar 0) eAs0))))))
def c_check_part_2 : FE := (eLc (iOf zp2 (eAs (eVar 1) (eAs (eSl (eVar 1) (fSo (eC (.int 1))) fNo) eAs0))) [3, 4] (gT 2 (gsC (gN 3) (gsC (gN 4) gs0))) bYes (e2 dGe (eVar 3) (eVar 4)))
def g_check_part : FS := (sSeq (sIf (bOr (bNot (bTr (e1 (isiD "tuple") (eVar 1)))) (bOr (bNot (bTr (eVar 1))) (bTr (eCall bAny (eAs c_check_part_1 eAs0))))) sNo sNil)
  (sIf (bTr (eCall bAny (eAs c_check_part_2 eAs0))) sNo sNil))
def F_check_part : List D → M D := run 5 g_check_part
theorem R_check_part {a0 a1 d : D} {s s1 : Src} (h : Yl (g_check_part [.rd a0, .rd a1, .no, .no, .no] s) (.rt d) s1) : Yl (F_check_part [a0, a1] s) d s1 := run_rt h
theorem N_check_part {a0 a1 : D} {δ : Ev} {s s1 : Src} (h : Yl (g_check_part [.rd a0, .rd a1, .no, .no, .no] s) (.nx δ) s1) : Yl (F_check_part [a0, a1] s) .non s1 := run_nx h
/-! reach -/
def c_reach_1 : FE := (eLc (iSeq (eVar 2)) [4] (gN 4) bYes (e2 dIx (e2 dIx (eVar 0) (eVar 3)) (eVar 4)))
def c_reach_2 : FE := (eLc (iSeq (eVar 1)) [3] (gN 3) bYes (eCall bMinS (eAs c_reach_1 eAs0)))
def g_reach : FS := (sRet (eCall bMaxS (eAs c_reach_2 eAs0)))
def F_reach : List D → M D := run 5 g_reach
theorem R_reach {a0 a1 a2 d : D} {s s1 : Src} (h : Yl (g_reach [.rd a0, .rd a1, .rd a2, .no, .no] s) (.rt d) s1) : Yl (F_reach [a0, a1, a2] s) d s1 := run_rt h
theorem N_reach {a0 a1 a2 : D} {δ : Ev} {s s1 : Src} (h : Yl (g_reach [.rd a0, .rd a1, .rd a2, .no, .no] s) (.nx δ) s1) : Yl (F_reach [a0, a1, a2] s) .non s1 := run_nx h
/-! part_distance -/
def g_part_distance : FS := (sSeq (sExp (eFn (fun ds => if ds.length = 1 then F_check_distances ds else M.no) (eAs (eVar 0) eAs0)))
  (sSeq (sExp (eFn (fun ds => if ds.length = 2 then F_check_part ds else M.no) (eAs (eVar 0) (eAs (eVar 1) eAs0))))
  (sSeq (sExp (eFn (fun ds => if ds.length = 2 then F_check_part ds else M.no) (eAs (eVar 0) (eAs (eVar 2) eAs0))))
  (sRet (eCall bMax2 (eAs (eFn (fun ds => if ds.length = 3 then F_reach ds else M.no) (eAs (eVar 0) (eAs (eVar 1) (eAs (eVar 2) eAs0)))) (eAs (eFn (fun ds => if ds.length = 3 then F_reach ds else M.no) (eAs (eVar 0) (eAs (eVar 2) (eAs (eVar 1) eAs0)))) eAs0)))))))
def F_part_distance : List D → M D := run 3 g_part_distance
theorem R_part_distance {a0 a1 a2 d : D} {s s1 : Src} (h : Yl (g_part_distance [.rd a0, .rd a1, .rd a2] s) (.rt d) s1) : Yl (F_part_distance [a0, a1, a2] s) d s1 := run_rt h
theorem N_part_distance {a0 a1 a2 : D} {δ : Ev} {s s1 : Src} (h : Yl (g_part_distance [.rd a0, .rd a1, .rd a2] s) (.nx δ) s1) : Yl (F_part_distance [a0, a1, a2] s) .non s1 := run_nx h
/-! check_size -/
def g_check_size : FS := (sIf (bOr (bNot (bTr (eFn (fun ds => if ds.length = 1 then F_is_integer ds else M.no) (eAs (eVar 0) eAs0)))) (bOf (e2 dLt (eVar 0) (eC (.int 0))))) sNo sNil)
def F_check_size : List D → M D := run 1 g_check_size
theorem R_check_size {a0 d : D} {s s1 : Src} (h : Yl (g_check_size [.rd a0] s) (.rt d) s1) : Yl (F_check_size [a0] s) d s1 := run_rt h
theorem N_check_size {a0 : D} {δ : Ev} {s s1 : Src} (h : Yl (g_check_size [.rd a0] s) (.nx δ) s1) : Yl (F_check_size [a0] s) .non s1 := run_nx h
/-! covers -/
def c_covers_1 : FE := (eLc (iSeq (eVar 3)) [5] (gN 5) bYes (e2 dLe (e2 dIx (e2 dIx (eVar 0) (eVar 4)) (eVar 5)) (eVar 1)))
def c_covers_2 : FE := (eLc (iOf rg1 (eAs (eCall bLen (eAs (eVar 0) eAs0)) eAs0)) [4] (gN 4) bYes (eCall bAny (eAs c_covers_1 eAs0)))
def b_covers_3 : FS := (sIf (bTr (eCall bAll (eAs c_covers_2 eAs0))) (sRet (eTup (eAs (eVar 2) (eAs (eVar 3) eAs0)))) sNil)
def b_covers_4 : FS := (sForN (iSeq (eFn (fun ds => if ds.length = 2 then F_choices ds else M.no) (eAs (eCall bLen (eAs (eVar 0) eAs0)) (eAs (eVar 2) eAs0)))) (gN 3) b_covers_3)
def g_covers : FS := (sSeq (sExp (eFn (fun ds => if ds.length = 1 then F_check_distances ds else M.no) (eAs (eVar 0) eAs0)))
  (sSeq (sExp (eFn (fun ds => if ds.length = 1 then F_check_size ds else M.no) (eAs (eVar 1) eAs0)))
  (sSeq (sFor (iOf rg2 (eAs (eC (.int 1)) (eAs (e2 dAdd (eCall bLen (eAs (eVar 0) eAs0)) (eC (.int 1))) eAs0))) (gN 2) b_covers_4)
  (sRet (eC .non)))))
def F_covers : List D → M D := run 6 g_covers
theorem R_covers {a0 a1 d : D} {s s1 : Src} (h : Yl (g_covers [.rd a0, .rd a1, .no, .no, .no, .no] s) (.rt d) s1) : Yl (F_covers [a0, a1] s) d s1 := run_rt h
theorem N_covers {a0 a1 : D} {δ : Ev} {s s1 : Src} (h : Yl (g_covers [.rd a0, .rd a1, .no, .no, .no, .no] s) (.nx δ) s1) : Yl (F_covers [a0, a1] s) .non s1 := run_nx h
/-! centers -/
def c_centers_1 : FE := (eLc (iSeq (eVar 3)) [6] (gN 6) bYes (e2 dIx (e2 dIx (eVar 0) (eVar 5)) (eVar 6)))
def c_centers_2 : FE := (eLc (iOf rg1 (eAs (eCall bLen (eAs (eVar 0) eAs0)) eAs0)) [5] (gN 5) bYes (eCall bMinS (eAs c_centers_1 eAs0)))
def b_centers_3 : FS := (sSeq (sSet 4 (eTup (eAs (eCall bMaxS (eAs c_centers_2 eAs0)) (eAs (eVar 3) eAs0))))
  (sSet 2 (eIf (bOr (bOf (e2 dIs (eVar 2) (eC .non))) (bOf (e2 dLtD (eVar 4) (eVar 2)))) (eVar 4) (eVar 2))))
def g_centers : FS := (sSeq (sExp (eFn (fun ds => if ds.length = 1 then F_check_distances ds else M.no) (eAs (eVar 0) eAs0)))
  (sSeq (sIf (bOr (bNot (bTr (eFn (fun ds => if ds.length = 1 then F_is_integer ds else M.no) (eAs (eVar 1) eAs0)))) (bNot (bOf (eCh dLe dLe (eC (.int 1)) (eVar 1) (eCall bLen (eAs (eVar 0) eAs0)))))) sNo sNil)
  (sSeq (sSet 2 (eC .non))
  (sSeq (sForN (iSeq (eFn (fun ds => if ds.length = 2 then F_choices ds else M.no) (eAs (eCall bLen (eAs (eVar 0) eAs0)) (eAs (eVar 1) eAs0)))) (gN 3) b_centers_3)
  (sRet (eVar 2))))))
def F_centers : List D → M D := run 7 g_centers
theorem R_centers {a0 a1 d : D} {s s1 : Src} (h : Yl (g_centers [.rd a0, .rd a1, .no, .no, .no, .no, .no] s) (.rt d) s1) : Yl (F_centers [a0, a1] s) d s1 := run_rt h
theorem N_centers {a0 a1 : D} {δ : Ev} {s s1 : Src} (h : Yl (g_centers [.rd a0, .rd a1, .no, .no, .no, .no, .no] s) (.nx δ) s1) : Yl (F_centers [a0, a1] s) .non s1 := run_nx h
/-! spread_out -/
def c_spread_out_1 : FE := (eLc (iSeq (eVar 2)) [5] (gN 5) bYes (e2 dIx (e2 dIx (eVar 0) (eVar 4)) (eVar 5)))
def c_spread_out_2 : FE := (eLc (iOf rg1 (eAs (eCall bLen (eAs (eVar 0) eAs0)) eAs0)) [4] (gN 4) bYes (eLf (eCall bMinS (eAs c_spread_out_1 eAs0))))
def b_spread_out_3 : FS := (sSeq (sOwn 3 c_spread_out_2)
  (sApp 2 (e2 mIndex (eVar 3) (eCall bMaxS (eAs (eVar 3) eAs0)))))
def t_spread_out_4 : Ev → M Bool := (bOf (e2 dLt (eCall bLen (eAs (eVar 2) eAs0)) (eVar 1)))
def c_spread_out_5 : FE := (eLc (iSeq (eVar 2)) [5] (gN 5) bYes (e2 dIx (e2 dIx (eVar 0) (eVar 4)) (eVar 5)))
def c_spread_out_6 : FE := (eLc (iOf rg1 (eAs (eCall bLen (eAs (eVar 0) eAs0)) eAs0)) [4] (gN 4) bYes (eCall bMinS (eAs c_spread_out_5 eAs0)))
def g_spread_out : FS := (sSeq (sExp (eFn (fun ds => if ds.length = 1 then F_check_distances ds else M.no) (eAs (eVar 0) eAs0)))
  (sSeq (sIf (bOr (bNot (bTr (eFn (fun ds => if ds.length = 1 then F_is_integer ds else M.no) (eAs (eVar 1) eAs0)))) (bNot (bOf (eCh dLe dLe (eC (.int 1)) (eVar 1) (eCall bLen (eAs (eVar 0) eAs0)))))) sNo sNil)
  (sSeq (sOwn 2 (eLst (eAs (eLf (eC (.int 0))) eAs0)))
  (sSeq (wLp t_spread_out_4 b_spread_out_3 1000000)
  (sRet (eTup (eAs (eCall bTup (eAs (eVar 2) eAs0)) (eAs (eCall bMaxS (eAs c_spread_out_6 eAs0)) eAs0))))))))
def F_spread_out : List D → M D := run 6 g_spread_out
theorem R_spread_out {a0 a1 d : D} {s s1 : Src} (h : Yl (g_spread_out [.rd a0, .rd a1, .no, .no, .no, .no] s) (.rt d) s1) : Yl (F_spread_out [a0, a1] s) d s1 := run_rt h
theorem N_spread_out {a0 a1 : D} {δ : Ev} {s s1 : Src} (h : Yl (g_spread_out [.rd a0, .rd a1, .no, .no, .no, .no] s) (.nx δ) s1) : Yl (F_spread_out [a0, a1] s) .non s1 := run_nx h
/-! is_net -/
def c_is_net_1 : FE := (eLc2 (iSeq (eVar 1)) [3, 4] (gN 3) bYes (iSeq (eVar 1)) [4] (gN 4) (bOf (e2 dLt (eVar 3) (eVar 4))) (e2 dLe (e2 dIx (e2 dIx (eVar 0) (eVar 3)) (eVar 4)) (eVar 2)))
def c_is_net_2 : FE := (eLc (iSeq (eVar 1)) [6] (gN 6) bYes (e2 dLe (e2 dIx (e2 dIx (eVar 0) (eVar 5)) (eVar 6)) (eVar 2)))
def c_is_net_3 : FE := (eLc (iOf rg1 (eAs (eCall bLen (eAs (eVar 0) eAs0)) eAs0)) [5] (gN 5) bYes (eCall bAny (eAs c_is_net_2 eAs0)))
def g_is_net : FS := (sSeq (sExp (eFn (fun ds => if ds.length = 1 then F_check_distances ds else M.no) (eAs (eVar 0) eAs0)))
  (sSeq (sExp (eFn (fun ds => if ds.length = 1 then F_check_size ds else M.no) (eAs (eVar 2) eAs0)))
  (sSeq (sIf (bTr (eCall bAny (eAs c_is_net_1 eAs0))) (sRet (eC (.bl false))) sNil)
  (sRet (eCall bAll (eAs c_is_net_3 eAs0))))))
def F_is_net : List D → M D := run 7 g_is_net
theorem R_is_net {a0 a1 a2 d : D} {s s1 : Src} (h : Yl (g_is_net [.rd a0, .rd a1, .rd a2, .no, .no, .no, .no] s) (.rt d) s1) : Yl (F_is_net [a0, a1, a2] s) d s1 := run_rt h
theorem N_is_net {a0 a1 a2 : D} {δ : Ev} {s s1 : Src} (h : Yl (g_is_net [.rd a0, .rd a1, .rd a2, .no, .no, .no, .no] s) (.nx δ) s1) : Yl (F_is_net [a0, a1, a2] s) .non s1 := run_nx h
/-! net -/
def c_net_1 : FE := (eLc (iSeq (eVar 2)) [4] (gN 4) bYes (e2 dGt (e2 dIx (e2 dIx (eVar 0) (eVar 3)) (eVar 4)) (eVar 1)))
def b_net_2 : FS := (sIf (bTr (eCall bAll (eAs c_net_1 eAs0))) (sApp 2 (eVar 3)) sNil)
def g_net : FS := (sSeq (sExp (eFn (fun ds => if ds.length = 1 then F_check_distances ds else M.no) (eAs (eVar 0) eAs0)))
  (sSeq (sExp (eFn (fun ds => if ds.length = 1 then F_check_size ds else M.no) (eAs (eVar 1) eAs0)))
  (sSeq (sOwn 2 (eLst eAs0))
  (sSeq (sFor (iOf rg1 (eAs (eCall bLen (eAs (eVar 0) eAs0)) eAs0)) (gN 3) b_net_2)
  (sRet (eCall bTup (eAs (eVar 2) eAs0)))))))
def F_net : List D → M D := run 5 g_net
theorem R_net {a0 a1 d : D} {s s1 : Src} (h : Yl (g_net [.rd a0, .rd a1, .no, .no, .no] s) (.rt d) s1) : Yl (F_net [a0, a1] s) d s1 := run_rt h
theorem N_net {a0 a1 : D} {δ : Ev} {s s1 : Src} (h : Yl (g_net [.rd a0, .rd a1, .no, .no, .no] s) (.nx δ) s1) : Yl (F_net [a0, a1] s) .non s1 := run_nx h
/-! _law_subsets -/
def c__law_subsets_1 : FE := (eLc (iSeq (eVar 1)) [3] (gN 3) bYes (e2 dAdd (eVar 3) (eTup (eAs (eVar 2) eAs0))))
def b__law_subsets_2 : FS := (sOwn 1 (e2 catF (eVar 1) c__law_subsets_1))
def g__law_subsets : FS := (sSeq (sOwn 1 (eLst (eAs (eLf (eTup eAs0)) eAs0)))
  (sSeq (sFor (iOf rg1 (eAs (eVar 0) eAs0)) (gN 2) b__law_subsets_2)
  (sRet (eCall bSortedE (eAs (eVar 1) eAs0)))))
def F__law_subsets : List D → M D := run 4 g__law_subsets
theorem R__law_subsets {a0 d : D} {s s1 : Src} (h : Yl (g__law_subsets [.rd a0, .no, .no, .no] s) (.rt d) s1) : Yl (F__law_subsets [a0] s) d s1 := run_rt h
theorem N__law_subsets {a0 : D} {δ : Ev} {s s1 : Src} (h : Yl (g__law_subsets [.rd a0, .no, .no, .no] s) (.nx δ) s1) : Yl (F__law_subsets [a0] s) .non s1 := run_nx h
end PF
set_option Elab.async false
set_option linter.all false
set_option maxRecDepth 100000
set_option maxHeartbeats 1000000
/-! GI: choices of any size, subsets. -/
namespace PF
open PySem PySem.Spec PyProof.Rows L2 DL
def nxt (l : List Nat) : Nat := match l.getLast? with | none => 0 | some x => x + 1
def exts (n : Nat) (l : List Nat) : List (List Nat) := (List.range (n - nxt l)).map fun j => l ++ [nxt l + j]
def chs (n : Nat) : Nat → List (List Nat)
  | 0 => [[]]
  | k + 1 => (chs n k).flatMap (exts n)
def Asc (n : Nat) (l : List Nat) : Prop := l.Pairwise (· < ·) ∧ ∀ x ∈ l, x < n
theorem nil_or_app {α : Type} (l : List α) : l = [] ∨ ∃ l' x, l = l' ++ [x] := by
  rcases List.eq_nil_or_concat l with e | ⟨l', x, e⟩
  · exact .inl e
  · exact .inr ⟨l', x, by rw [e, List.concat_eq_append]⟩
theorem nxt_app (l : List Nat) (x : Nat) : nxt (l ++ [x]) = x + 1 := by simp [nxt]
theorem asc_app {n : Nat} {l : List Nat} {x : Nat} : Asc n (l ++ [x]) ↔ Asc n l ∧ nxt l ≤ x ∧ x < n := by
  constructor
  · rintro ⟨h1, h2⟩
    obtain ⟨p1, p2, p3⟩ := List.pairwise_append.mp h1
    refine ⟨⟨p1, fun y hy => h2 y (List.mem_append_left _ hy)⟩, ?_, h2 x (by simp)⟩
    unfold nxt
    cases e : l.getLast? with
    | none => exact Nat.zero_le _
    | some y => exact p3 y (List.mem_of_getLast? e) x (by simp)
  · rintro ⟨⟨h1, h2⟩, h3, h4⟩
    refine ⟨List.pairwise_append.mpr ⟨h1, List.pairwise_singleton _ _, fun a ha b hb => ?_⟩, fun y hy => ?_⟩
    · have eb : b = x := by simpa using hb
      subst eb
      rcases nil_or_app l with rfl | ⟨l', y, rfl⟩
      · simp at ha
      · rw [nxt_app] at h3
        rcases List.mem_append.mp ha with ha | ha
        · have := (List.pairwise_append.mp h1).2.2 a ha y (by simp)
          omega
        · have : a = y := by simpa using ha
          omega
    · rcases List.mem_append.mp hy with hy | hy
      · exact h2 y hy
      · have : y = x := by simpa using hy
        omega
theorem mem_chs {n : Nat} : ∀ {k : Nat} {l : List Nat}, l ∈ chs n k ↔ Asc n l ∧ l.length = k
  | 0, l => by
    rw [chs, List.mem_singleton]
    constructor
    · rintro rfl
      exact ⟨⟨List.Pairwise.nil, fun x hx => by simp at hx⟩, rfl⟩
    · rintro ⟨_, h⟩
      exact List.length_eq_zero_iff.mp h
  | k + 1, l => by
    rw [chs, List.mem_flatMap]
    constructor
    · rintro ⟨l', h1, h2⟩
      obtain ⟨j, hj, rfl⟩ := List.mem_map.mp h2
      obtain ⟨a, b⟩ := mem_chs.mp h1
      have := List.mem_range.mp hj
      exact ⟨asc_app.mpr ⟨a, by omega, by omega⟩, by simp [b]⟩
    · rintro ⟨a, b⟩
      rcases nil_or_app l with rfl | ⟨l', x, rfl⟩
      · simp at b
      · obtain ⟨a1, a2, a3⟩ := asc_app.mp a
        refine ⟨l', mem_chs.mpr ⟨a1, by simpa using b⟩, List.mem_map.mpr ⟨x - nxt l', List.mem_range.mpr (by omega), ?_⟩⟩
        rw [show nxt l' + (x - nxt l') = x by omega]
theorem chs_len : ∀ n, n < 7 → ∀ k, k < 8 → (chs n k).length ≤ 64 := by decide +kernel
section
variable {n : Nat} {s : Src}
theorem pL_app (l : List Nat) (x : Nat) (h : l.length ≤ 100) : dAdd (pL l) (.tup [.int (x : Nat)]) = some (pL (l ++ [x])) := by
  unfold pL
  rw [add_tup, if_pos (by simp; omega), List.map_append]; rfl
theorem choice (h : n ≤ 6) {k : Nat} (hk : k ≤ 6) : F_choices [.int (n : Nat), .int (k : Nat)] s = some (.lst ((chs n k).map pL), s) := by
  have rk : rg1 [.int (k : Nat)] = some (seqF k fun i => .int (i : Nat)) := rg1_F (by omega)
  refine R_choices ?_
  unfold g_choices
  refine .seq (.own (d := .lst [.tup []]) (by simp)) (.then_ (P := fun δ s' => ∃ A B C : Sl, δ = [.rd (.int (n : Nat)), .rd (.int (k : Nat)), .ow (.lst ((chs n k).map pL)), A, B, C] ∧ s' = s) ?_ fun δ s' ⟨A, B, C, e, es⟩ => by subst e es; exact .ret (by simp))
  refine Yl.for_ (n := k) (f := fun i => .int (i : Nat)) (s1 := s) (fun i δ s' => ∃ A B C : Sl, δ = [.rd (.int (n : Nat)), .rd (.int (k : Nat)), .ow (.lst ((chs n i).map pL)), A, B, C] ∧ s' = s) (by simp [rk]) ⟨_, _, _, rfl, rfl⟩ ?_
  rintro i δ s' hi ⟨A, B, C, rfl, rfl⟩
  refine ⟨rfl, _, rfl, ?_⟩
  unfold b_choices_2
  refine .mk (.own (d := .lst ((chs n (i + 1)).map pL)) ?_) ⟨_, _, _, rfl, rfl⟩
  unfold c_choices_1
  have hlen := chs_len n (by omega) i (by omega)
  refine lc2_eq (s1 := s') (ds := (chs n i).map pL) (by simp) (by simp; omega) ?_
  have hm := cLp2_map (vs := [4, 5]) (g := gN 4) (tt := bYes) (inn := inLc (iOf rg2 (eAs (eIf (bTr (eVar 4)) (e2 dAdd (e2 dIx (eVar 4) (e1 dNeg (eC (.int 1)))) (eC (.int 1))) (eC (.int 0))) (eAs (eVar 0) eAs0))) [5] (gN 5) bYes (eLf (e2 dAdd (eVar 4) (eTup (eAs (eVar 5) eAs0)))))
      (δ := [.rd (.int (n : Nat)), .rd (.int (k : Nat)), .ow (.lst ((chs n i).map pL)), .rd (.int (i : Nat)), B, C]) (s := s') (α := List Nat) pL (fun l => (exts n l).map pL) (chs n i) fun l hl => ⟨_, rfl, rfl, by
    obtain ⟨⟨a1, a2⟩, a3⟩ := mem_chs.mp hl
    have e5 : rg2 [.int ((nxt l : Nat) : Int), .int (n : Nat)] = some ((List.range (n - nxt l)).map fun k => .int ((nxt l + k : Nat) : Int)) := rg2_n (i := nxt l) (by
      rcases nil_or_app l with rfl | ⟨l', x, rfl⟩
      · show 0 ≤ 1000; omega
      · rw [nxt_app]; have := a2 x (by simp); omega) (by omega)
    refine inLc_eq (s1 := s') (ds := (List.range (n - nxt l)).map fun k => .int ((nxt l + k : Nat) : Int)) ?_ (by simp; omega) ?_
    · rcases nil_or_app l with rfl | ⟨l', x, rfl⟩
      · have e5 : rg2 [.int 0, .int (n : Nat)] = some ((List.range (n - nxt [])).map fun k => .int ((nxt [] + k : Nat) : Int)) := e5
        simp [pL, e5]
      · rw [nxt_app] at e5 ⊢
        have e5 : rg2 [.int ((x : Int) + 1), .int (n : Nat)] = some ((List.range (n - (x + 1))).map fun k => .int ((x + 1 + k : Nat) : Int)) := e5
        have el : atI (l'.map (fun i => D.int ((i : Nat) : Int)) ++ [D.int ((x : Nat) : Int)]) (-1) = some (.int (x : Nat)) := at_last _ _
        simp [pL, e5, el]
    · rw [cLp_map (α := Nat) (fun k => .int ((nxt l + k : Nat) : Int)) (fun k => pL (l ++ [nxt l + k])) (List.range (n - nxt l)) fun k _ => ⟨_, rfl, rfl, by
        have := pL_app l (nxt l + k) (by omega)
        exact Yl.lf (.e2 (s1 := s') (a := pL l) (b := .tup [.int ((nxt l + k : Nat) : Int)]) (by simp) (by simp) this) (by simp)⟩]
      unfold exts
      rw [List.map_map]; rfl⟩
  have e : (chs n (i + 1)).map pL = (chs n i).flatMap fun l => (exts n l).map pL := by rw [chs, List.map_flatMap]
  rw [e]
  exact hm
end
end PF
set_option Elab.async false
set_option linter.all false
set_option maxRecDepth 100000
set_option maxHeartbeats 1000000
/-! GJ: how far parts are from each other; balls, nets. -/
namespace PF
open PySem PySem.Spec PyProof.Rows L2 DL
def near (t : Nat → Nat → Int) (l : List Nat) (i : Nat) : Int := mnI (l.map fun c => t i c)
def rchL (t : Nat → Nat → Int) (a b : List Nat) : Int := mxI (a.map (near t b))
def pdL (t : Nat → Nat → Int) (a b : List Nat) : Int := max (rchL t a b) (rchL t b a)
section
variable {t : Nat → Nat → Int} {a b l : List Nat}
theorem map_ne {α β : Type} {f : α → β} {l : List α} (h : l ≠ []) : l.map f ≠ [] := fun e => h (List.map_eq_nil_iff.mp e)
theorem near_le {i c : Nat} (h : c ∈ l) : near t l i ≤ t i c := (mnI_spec _ (map_ne (List.ne_nil_of_mem h))).2 _ (List.mem_map.mpr ⟨c, h, rfl⟩)
theorem near_in (h : l ≠ []) (i : Nat) : ∃ c, c ∈ l ∧ near t l i = t i c := by
  obtain ⟨c, hc, e⟩ := List.mem_map.mp (mnI_spec (l.map fun c => t i c) (map_ne h)).1
  exact ⟨c, hc, e.symm⟩
theorem rch_ge {i : Nat} (h : i ∈ a) : near t b i ≤ rchL t a b := (mxI_spec _ (map_ne (List.ne_nil_of_mem h))).2 _ (List.mem_map.mpr ⟨i, h, rfl⟩)
theorem rch_in (h : a ≠ []) : ∃ i, i ∈ a ∧ rchL t a b = near t b i := by
  obtain ⟨i, hi, e⟩ := List.mem_map.mp (mxI_spec (a.map (near t b)) (map_ne h)).1
  exact ⟨i, hi, e.symm⟩
theorem rch_le {k : Int} (ha : a ≠ []) (h : ∀ i ∈ a, ∃ c ∈ b, t i c ≤ k) : rchL t a b ≤ k := by
  obtain ⟨i, hi, e⟩ := rch_in (t := t) (b := b) ha
  obtain ⟨c, hc, q⟩ := h i hi
  have := near_le (t := t) (i := i) hc
  omega
theorem rch_le_iff {k : Int} (ha : a ≠ []) (hb : b ≠ []) : rchL t a b ≤ k ↔ ∀ i ∈ a, ∃ c ∈ b, t i c ≤ k := by
  refine ⟨fun h i hi => ?_, rch_le ha⟩
  obtain ⟨c, hc, e⟩ := near_in (t := t) hb i
  have := rch_ge (t := t) (b := b) hi
  exact ⟨c, hc, by omega⟩
end
theorem min_lst {r : List Int} (h : r ≠ []) : bMinS [.lst (r.map D.int)] = some (.int (mnI r)) := min_wI h
def En (n : Nat) : List Nat := List.range n
section
variable {n : Nat} {t : Nat → Nat → Int} {a b l : List Nat} {s : Src}
/-- a part: ascending, not empty -/
structure Prt (n : Nat) (l : List Nat) : Prop where
  asc : Asc n l
  ne : l ≠ []
theorem prt_all (h : 1 ≤ n) : Prt n (En n) := ⟨⟨List.pairwise_lt_range, fun x hx => List.mem_range.mp hx⟩, fun e => by
  have := congrArg List.length e
  simp [En] at this
  omega⟩
theorem prt_one {x : Nat} (h : x < n) : Prt n [x] := ⟨⟨List.pairwise_singleton _ _, fun y hy => by
  have : y = x := by simpa using hy
  omega⟩, by simp⟩
theorem asc_len (h : Asc n l) : l.length ≤ n := by
  have hn : l.Nodup := h.1.imp fun {a b} h => Nat.ne_of_lt h
  have hs : l ⊆ List.range n := fun x hx => List.mem_range.mpr (h.2 x hx)
  have := List.Nodup.length_le_of_subset hn hs
  simpa using this
theorem reachE (hn : n ≤ 8) (ha : Prt n a) (hb : Prt n b) : F_reach [tF n t, pL a, pL b] s = some (.int (rchL t a b), s) := by
  have la := asc_len ha.asc
  have lb := asc_len hb.asc
  refine R_reach (.ret (.call (.as1 (d := .lst ((a.map (near t b)).map .int)) ?_) (max_lst (map_ne ha.ne))))
  rw [List.map_map]
  unfold c_reach_2
  refine .lcL (s1 := s) (l := a) (f := fun i => .int (i : Nat)) (by simp [pL]) (by omega) fun i hi => ⟨_, rfl, rfl, ?_⟩
  have h1 := ha.asc.2 i hi
  refine .call (.as1 (d := .lst ((b.map fun c => t i c).map .int)) ?_) (min_lst (map_ne hb.ne))
  rw [List.map_map]
  unfold c_reach_1
  refine .lcL (s1 := s) (l := b) (f := fun i => .int (i : Nat)) (by simp [pL]) (by omega) fun c hc => ⟨_, rfl, rfl, ?_⟩
  have h2 := hb.asc.2 c hc
  simp (disch := omega)
theorem zip_tail : ∀ {l : List Nat}, l.Pairwise (· < ·) → ∀ p ∈ l.zip l.tail, p.1 < p.2
  | [], _, p, hp => by simp at hp
  | [x], _, p, hp => by simp at hp
  | x :: y :: l, h, p, hp => by
    obtain ⟨h1, h2⟩ := List.pairwise_cons.mp h
    have hp : p ∈ (x, y) :: (y :: l).zip l := hp
    rcases List.mem_cons.mp hp with rfl | hp
    · exact h1 y (by simp)
    · exact zip_tail h2 p hp
theorem zipD_pairs : ∀ a b : List Nat, zipD (a.map fun i => D.int ((i : Nat) : Int)) (b.map fun i => D.int ((i : Nat) : Int)) = (a.zip b).map fun p => .tup [.int (p.1 : Nat), .int (p.2 : Nat)]
  | [], b => by cases b <;> rfl
  | x :: a, [] => rfl
  | x :: a, y :: b => by
    rw [List.map_cons, List.map_cons, zipD, zipD_pairs a b]; rfl
theorem pL_tail (h : l ≠ []) : dSl (pL l) (some 1) none = some (pL l.tail) := by
  refine congrArg some (congrArg D.tup ?_)
  unfold DL.cutD
  have e1 : HT.sIx (l.map fun i => D.int ((i : Nat) : Int)).length 0 (some 1) = 1 := by
    have := HT.sIx_nat (l.map fun i => D.int ((i : Nat) : Int)).length 0 1
    have hl : 1 ≤ l.length := List.length_pos_iff.mpr h
    rw [show ((1 : Nat) : Int) = 1 from rfl] at this
    rw [this, List.length_map]
    omega
  have e2 : HT.sIx (l.map fun i => D.int ((i : Nat) : Int)).length (l.map fun i => D.int ((i : Nat) : Int)).length none = (l.map fun i => D.int ((i : Nat) : Int)).length := rfl
  rw [e1, e2, List.take_of_length_le (by simp)]
  cases l with
  | nil => exact absurd rfl h
  | cons x l => rfl
theorem chkP (hn : n ≤ 8) (ha : Prt n a) : F_check_part [tF n t, pL a] s = some (.non, s) := by
  have la := asc_len ha.asc
  refine N_check_part (δ := [.rd (tF n t), .rd (pL a), .no, .no, .no]) ?_
  unfold g_check_part
  have tr : truD (pL a) = some true := by
    show some (!(a.map _).isEmpty) = _
    cases a with
    | nil => exact absurd rfl ha.ne
    | cons x l => rfl
  refine .seq (.pass (.or0 (s1 := s) (Yl.cast (Yl.not (b := true) (s1 := s) (by simp [pL])) rfl) (.or0 (s1 := s) (Yl.cast (Yl.not (b := true) (s1 := s) (.bTr (d := pL a) (by simp) tr)) rfl) (.bTr (.call (.as1 (d := .lst (a.map fun _ => .bl false)) ?_) (any_allno _ fun d hd => ?_)) rfl)))) (.pass (.bTr (.call (.as1 (d := .lst ((a.zip a.tail).map fun _ => .bl false)) ?_) (any_allno _ fun d hd => ?_)) rfl))
  · unfold c_check_part_1
    refine .lcL (s1 := s) (l := a) (f := fun i => .int (i : Nat)) (by simp [pL]) (by omega) fun i hi => ⟨_, rfl, rfl, ?_⟩
    have h1 := ha.asc.2 i hi
    simp (disch := omega)
    omega
  · obtain ⟨_, _, e⟩ := List.mem_map.mp hd
    exact e.symm
  · unfold c_check_part_2
    have e1 := pL_tail ha.ne
    have e2 : zp2 [pL a, pL a.tail] = some ((a.zip a.tail).map fun p => .tup [.int (p.1 : Nat), .int (p.2 : Nat)]) := congrArg some (zipD_pairs a a.tail)
    refine .lcL (s1 := s) (l := a.zip a.tail) (f := fun p => .tup [.int (p.1 : Nat), .int (p.2 : Nat)]) (by simp [e1, e2]) (by simp; omega) fun p hp => ⟨_, rfl, rfl, ?_⟩
    have := zip_tail ha.asc.1 p hp
    simp (disch := omega)
    omega
  · obtain ⟨_, _, e⟩ := List.mem_map.mp hd
    exact e.symm
theorem pdE (h : Dist n t) (ha : Prt n a) (hb : Prt n b) : F_part_distance [tF n t, pL a, pL b] s = some (.int (pdL t a b), s) := by
  have n8 := h.n8
  have c1 := fun s => chkD (s := s) h
  have c2 := fun s => chkP (t := t) (s := s) n8 ha
  have c3 := fun s => chkP (t := t) (s := s) n8 hb
  have c4 := fun s => reachE (t := t) (s := s) n8 ha hb
  have c5 := fun s => reachE (t := t) (s := s) n8 hb ha
  refine R_part_distance ?_
  unfold g_part_distance
  refine .seq (.exp (d := .non) (by simp [c1])) (.seq (.exp (d := .non) (by simp [c2])) (.seq (.exp (d := .non) (by simp [c3])) (.ret ?_)))
  simp [c4, c5, pdL]
end
end PF
set_option Elab.async false
set_option linter.all false
set_option maxRecDepth 100000
set_option maxHeartbeats 1000000
/-! GK: sizes, balls, nets, covers. -/
namespace PF
open PySem PySem.Spec PyProof.Rows L2 DL
section
variable {n : Nat} {t : Nat → Nat → Int} {a b l : List Nat} {size : Int} {s : Src}
theorem chkSz (h : 0 ≤ size) : F_check_size [.int size] s = some (.non, s) := by
  refine N_check_size (δ := [.rd (.int size)]) ?_
  unfold g_check_size
  exact .pass (by simp; omega)
def ballL (n : Nat) (t : Nat → Nat → Int) (x : Nat) (size : Int) : List Nat := wh n fun i => decide (t x i ≤ size)
theorem ballE (h : Tab n t) {x : Nat} (hx : x < n) : F_ball [tF n t, .int (x : Nat), .int size] s = some (pL (ballL n t x size), s) := by
  have n8 := h.n8
  refine R_ball ?_
  unfold g_ball
  refine .seq (.exp (d := .non) (by simp [chkT h])) (.ret (.call (.as1 (d := .lst ((ballL n t x size).map fun i => .int (i : Nat))) ?_) rfl))
  unfold c_ball_1
  refine .lcI (s1 := s) (l := List.range n) (f := fun i => .tup [.int (i : Nat), .int (t x i)]) (t := fun i => decide (t x i ≤ size)) ?_ (by simp; omega) fun i hi => ⟨_, rfl, ?_, fun _ => rfl⟩
  · simp (disch := omega)
    rfl
  · simp
theorem wh_asc (p : Nat → Bool) : Asc n (wh n p) := ⟨List.Pairwise.filter _ List.pairwise_lt_range, fun x hx => (mem_wh.mp hx).1⟩
/-- part of points that cover all -/
def cov (n : Nat) (t : Nat → Nat → Int) (size : Int) (l : List Nat) : Bool := (En n).all fun i => l.any fun c => decide (t i c ≤ size)
theorem cov_iff : cov n t size l = true ↔ ∀ i, i < n → ∃ c ∈ l, t i c ≤ size := by simp [cov, En]
theorem any_lst (l : List Nat) (p : Nat → Bool) : bAny [.lst (l.map fun i => D.bl (p i))] = some (.bl (l.any p)) := by
  have e : ∀ l : List Nat, l = (List.range l.length).map fun i => l.getD i 0 := fun l => by
    refine List.ext_getElem (by simp) fun i h1 h2 => ?_
    simp [List.getD, h1]
  have e2 : D.lst (l.map fun i => D.bl (p i)) = vL l.length fun i => .bl (p (l.getD i 0)) := by
    unfold vL seqF
    conv => lhs; rw [e l]
    rw [List.map_map]; simp
  have e3 : l.any p = anyF l.length fun i => p (l.getD i 0) := by
    rw [Bool.eq_iff_iff, anyF_iff, List.any_eq_true]
    constructor
    · rintro ⟨x, hx, q⟩
      obtain ⟨i, hi, rfl⟩ := List.getElem_of_mem hx
      exact ⟨i, hi, by simpa [List.getD, hi] using q⟩
    · rintro ⟨i, hi, q⟩
      exact ⟨_, getD_mem hi, q⟩
  rw [e2, any_F, e3]
theorem coversC (hn : n ≤ 8) (hl : Asc n l) {A B : Sl} {x : Sl} : Yl (c_covers_2 [.rd (tF n t), .rd (.int size), x, .rd (pL l), A, B] s) (vL n fun i => .bl (l.any fun c => decide (t i c ≤ size))) s := by
  have ll := asc_len hl
  have rn : rg1 [.int (n : Nat)] = some (seqF n fun i => .int (i : Nat)) := rg1_F (by omega)
  unfold c_covers_2
  refine .lc (s1 := s) (f := fun i => .int (i : Nat)) (by simp [rn]) (by omega) fun i hi => ⟨_, rfl, rfl, ?_⟩
  refine .call (.as1 (d := .lst (l.map fun c => .bl (decide (t i c ≤ size)))) ?_) (any_lst l _)
  unfold c_covers_1
  refine .lcL (s1 := s) (l := l) (f := fun i => .int (i : Nat)) (by simp [pL]) (by omega) fun c hc => ⟨_, rfl, rfl, ?_⟩
  have := hl.2 c hc
  simp (disch := omega)
theorem cov_F : allF n (fun i => l.any fun c => decide (t i c ≤ size)) = cov n t size l := rfl
/-- the first choice of k points that covers -/
def covAt (n : Nat) (t : Nat → Nat → Int) (size : Int) (k : Nat) : Option (List Nat) := (chs n k).find? (cov n t size)
theorem coversE (h : Dist n t) (h6 : n ≤ 6) (h0 : 0 ≤ size) : ∃ k l, 1 ≤ k ∧ k ≤ n ∧ l ∈ chs n k ∧ cov n t size l = true ∧ (∀ j, 1 ≤ j → j < k → ∀ q ∈ chs n j, cov n t size q = false) ∧ F_covers [tF n t, .int size] s = some (.tup [.int (k : Nat), pL l], s) := by
  have n1 := h.n1
  have c1 := fun s => chkD (s := s) h
  have c2 := fun s => chkSz (s := s) h0
  have rg : rg2 [.int 1, .int ((n : Int) + 1)] = some ((List.range n).map fun k => .int ((1 + k : Nat) : Int)) := rg2_n (i := 1) (n := n + 1) (by omega) (by omega)
  have inner : ∀ (k : Nat) (A B C : Sl), 1 + k ≤ n → noOw [A, B, C] = true →
      (∀ l, covAt n t size (1 + k) = some l → Yl (b_covers_4 [.rd (tF n t), .rd (.int size), .rd (.int ((1 + k : Nat) : Int)), A, B, C] s) (.rt (.tup [.int ((1 + k : Nat) : Int), pL l])) s) ∧
      (covAt n t size (1 + k) = none → ∃ δ', Yl (b_covers_4 [.rd (tF n t), .rd (.int size), .rd (.int ((1 + k : Nat) : Int)), A, B, C] s) (.nx δ') s ∧ ∃ A : Sl, noOw [A] = true ∧ δ' = [.rd (tF n t), .rd (.int size), .rd (.int ((1 + k : Nat) : Int)), A, B, C]) := fun k A B C hk hv => by
    have ec : F_choices [.int (n : Nat), .int ((1 : Int) + (k : Int))] s = some (.lst ((chs n (1 + k)).map pL), s) := choice (s := s) h6 (k := 1 + k) (by omega)
    unfold b_covers_4
    refine Yl.forNFind (l := chs n (1 + k)) (f := pL) (fun δ => ∃ A : Sl, noOw [A] = true ∧ δ = [.rd (tF n t), .rd (.int size), .rd (.int ((1 + k : Nat) : Int)), A, B, C]) (cov n t size) (fun l => .tup [.int ((1 + k : Nat) : Int), pL l]) (by simp [ec]) ?_ ⟨A, ?_, rfl⟩ ?_
    · cases A <;> cases B <;> cases C <;> first | rfl | cases hv
    · cases A <;> first | rfl | (cases B <;> cases C <;> cases hv)
    · rintro l δ hl ⟨A, hA, rfl⟩
      have hc := (mem_chs.mp hl).1
      refine ⟨by simp, _, rfl, fun e => ?_, fun e => ⟨_, ?_, .rd (pL l), rfl, rfl⟩⟩
      · unfold b_covers_3
        exact .ifT (.bTr (.call (.as1 (coversC (by omega) hc)) (all_F n _)) (by rw [cov_F, e]; rfl)) (.ret (by simp))
      · unfold b_covers_3
        exact .pass (.bTr (.call (.as1 (coversC (by omega) hc)) (all_F n _)) (by rw [cov_F, e]; rfl))
  have full : cov n t size (En n) = true := cov_iff.mpr fun i hi => ⟨i, List.mem_range.mpr hi, by rw [h.dg i hi]; exact h0⟩
  have outer := Yl.forFind (h := iOf rg2 (eAs (eC (.int 1)) (eAs (e2 dAdd (eCall bLen (eAs (eVar 0) eAs0)) (eC (.int 1))) eAs0))) (tg := gN 2) (body := b_covers_4) (δ := [.rd (tF n t), .rd (.int size), .no, .no, .no, .no]) (s := s) (l := List.range n) (f := fun k => .int ((1 + k : Nat) : Int))
    (fun δ => ∃ X A : Sl, noOw [A] = true ∧ δ = [.rd (tF n t), .rd (.int size), X, A, .no, .no]) (fun k => (covAt n t size (1 + k)).isSome) (fun k => .tup [.int ((1 + k : Nat) : Int), pL ((covAt n t size (1 + k)).getD [])]) (by simp [rg]) ⟨_, .no, rfl, rfl⟩ (by
      rintro k δ hk ⟨X, A, hA, rfl⟩
      have hk := List.mem_range.mp hk
      obtain ⟨i1, i2⟩ := inner k A .no .no (by omega) (by cases A <;> first | rfl | cases hA)
      refine ⟨rfl, _, rfl, fun e => ?_, fun e => ?_⟩
      · obtain ⟨l, el⟩ := Option.isSome_iff_exists.mp e
        rw [el]
        exact i1 l el
      · have en : covAt n t size (1 + k) = none := by
          cases c : covAt n t size (1 + k) with
          | none => rfl
          | some l => rw [c] at e; cases e
        obtain ⟨δ', e1, A', hA', rfl⟩ := i2 en
        exact ⟨_, e1, _, _, hA', rfl⟩)
  have ff : ((List.range n).find? fun k => (covAt n t size (1 + k)).isSome).isSome = true := by
    rw [List.find?_isSome]
    refine ⟨n - 1, List.mem_range.mpr (by omega), ?_⟩
    rw [show 1 + (n - 1) = n by omega]
    show (covAt n t size n).isSome = true
    unfold covAt
    rw [List.find?_isSome]
    exact ⟨En n, mem_chs.mpr ⟨(prt_all n1).asc, by simp [En]⟩, full⟩
  obtain ⟨k, ek⟩ := Option.isSome_iff_exists.mp ff
  have o := outer.1 k ek
  have hk := List.mem_range.mp (List.mem_of_find?_eq_some ek)
  have hs := List.find?_some ek
  obtain ⟨l, el⟩ := Option.isSome_iff_exists.mp hs
  rw [el] at o
  have el : (chs n (1 + k)).find? (cov n t size) = some l := el
  refine ⟨1 + k, l, by omega, by omega, List.mem_of_find?_eq_some el, List.find?_some el, fun j h1 h2 q hq => ?_, R_covers ?_⟩
  · obtain ⟨_, as, bs, e1, e2⟩ := List.find?_eq_some_iff_append.mp ek
    have hj : j - 1 ∈ as := by
      have hm : j - 1 ∈ List.range n := List.mem_range.mpr (by omega)
      rw [e1] at hm
      rcases List.mem_append.mp hm with hm | hm
      · exact hm
      · have hp : (as ++ k :: bs).Pairwise (· < ·) := e1 ▸ List.pairwise_lt_range
        obtain ⟨_, p2, _⟩ := List.pairwise_append.mp hp
        rcases List.mem_cons.mp hm with e | hm
        · omega
        · have := (List.pairwise_cons.mp p2).1 _ hm
          omega
    have := e2 _ hj
    rw [show 1 + (j - 1) = j by omega] at this
    cases c : cov n t size q with
    | false => rfl
    | true =>
      have hs2 : (covAt n t size j).isSome = true := by
        unfold covAt
        rw [List.find?_isSome]
        exact ⟨q, hq, c⟩
      rw [hs2] at this
      cases this
  · unfold g_covers
    exact .seq (.exp (d := .non) (by simp [c1])) (.seq (.exp (d := .non) (by simp [c2])) (.seqR o))
end
end PF
set_option Elab.async false
set_option linter.all false
set_option maxRecDepth 100000
set_option maxHeartbeats 1000000
/-! GL: centers. -/
namespace PF
open PySem PySem.Spec PyProof.Rows L2 DL PySem.W
def intsN (l : List Nat) : List Int := l.map fun i : Nat => ((i : Nat) : Int)
theorem pL_ints (l : List Nat) : pL l = .tup ((intsN l).map .int) := by
  unfold pL intsN
  rw [List.map_map]; rfl
def keyD (v : Int) (l : List Nat) : D := .tup [.int v, pL l]
theorem key_py (v : Int) (l : List Nat) : (keyD v l).py = .tuple [.int v, .tuple ((intsN l).map .int)] := by
  unfold keyD
  rw [pL_ints, D.py, pys, pys, pys, D.py, D.py, pys_ints2]
theorem key_lt (v v' : Int) (l l' : List Nat) : dLtD (keyD v l) (keyD v' l') = some (.bl (if v = v' then (if PyData.eqv (.tuple ((intsN l).map .int)) (.tuple ((intsN l').map .int)) = true then false else dataLt (.tuple ((intsN l).map .int)) (.tuple ((intsN l').map .int))) else decide (v < v'))) := by
  have ok : ∀ (v : Int) (l : List Nat), dOk 8 (keyD v l) = true := fun v l => by simp [keyD, pL]
  have h1 : alike (.int v) (.int v') = true := by simp [alike]
  have h2 : alike (.tuple ((intsN l).map .int)) (.tuple ((intsN l').map .int)) = true := by rw [alike, alike_ints]
  have al : alike (keyD v l).py (keyD v' l').py = true := by
    rw [key_py, key_py, alike, alikeAll, alikeAll, alikeAll, h1, h2]; rfl
  have e : dLtD (keyD v l) (keyD v' l') = if (dOk 8 (keyD v l) && dOk 8 (keyD v' l') && alike (keyD v l).py (keyD v' l').py) = true then some (.bl (dataLt (keyD v l).py (keyD v' l').py)) else none := rfl
  rw [e, ok, ok, al, if_pos (show (true && true && true) = true from rfl), key_py, key_py, dataLt_pair h1 h2, dataLt_int]
  congr 2
  by_cases c : v = v'
  · subst c
    simp [PyData.eqv]
  · have : PyData.eqv (.int v) (.int v') = false := by simp [PyData.eqv, c]
    rw [this, if_neg Bool.false_ne_true, if_neg c]
theorem key_lt2 (v v' : Int) (l l' : List Nat) : ∃ b, dLtD (keyD v l) (keyD v' l') = some (.bl b) ∧ (b = true → v ≤ v') ∧ (b = false → v' ≤ v) := by
  refine ⟨_, key_lt v v' l l', fun e => ?_, fun e => ?_⟩
  · by_cases c : v = v'
    · omega
    · rw [if_neg c] at e
      have := of_decide_eq_true e
      omega
  · by_cases c : v = v'
    · omega
    · rw [if_neg c] at e
      have := of_decide_eq_false e
      omega
theorem key_lt1 {v v' : Int} {a b : Nat} (hab : b < a) {k : Bool} (h : dLtD (keyD v [a]) (keyD v' [b]) = some (.bl k)) (hk : k = true) : v < v' := by
  rw [key_lt] at h
  cases h
  by_cases c : v = v'
  · rw [if_pos c] at hk
    exfalso
    have e1 : PyData.eqv (.tuple ((intsN [a]).map .int)) (.tuple ((intsN [b]).map .int)) = false := by
      show PyData.eqv (.tuple [.int (a : Int)]) (.tuple [.int (b : Int)]) = false
      simp [PyData.eqv, PyData.eqvAll]
      omega
    rw [e1, if_neg Bool.false_ne_true] at hk
    have e2 : dataLt (.tuple ((intsN [a]).map .int)) (.tuple ((intsN [b]).map .int)) = decide ((a : Int) < (b : Int)) := by
      show dataLt (.tuple [.int (a : Int)]) (.tuple [.int (b : Int)]) = _
      have e3 : PyData.eqv (.int (a : Int)) (.int (b : Int)) = false := by simp [PyData.eqv]; omega
      rw [dataLt_tuple, dataLt_cons (by simp [alike]), e3, if_neg Bool.false_ne_true, dataLt_int]
    rw [e2] at hk
    have := of_decide_eq_true hk
    omega
  · rw [if_neg c] at hk
    exact of_decide_eq_true hk
section
variable {n : Nat} {t : Nat → Nat → Int} {s : Src}
theorem chs_one (n : Nat) : chs n 1 = (List.range n).map fun j => [j] := by
  show [[]].flatMap (exts n) = _
  simp [exts, nxt]
theorem lst_seq {α : Type} (d : α) (f : α → D) (L : List α) : L.map f = seqF L.length fun i => f (L.getD i d) := seqF_ext (by simp) fun i hi => by
  rw [List.getElem?_map, List.getElem?_eq_getElem hi]
  simp [List.getD, hi]
theorem chs_ne {k : Nat} (hk : k ≤ n) : 0 < (chs n k).length := by
  have : List.range k ∈ chs n k := mem_chs.mpr ⟨⟨List.pairwise_lt_range, fun x hx => by have := List.mem_range.mp hx; omega⟩, by simp⟩
  exact List.length_pos_of_mem this
theorem centersE (h : Dist n t) (h6 : n ≤ 6) {k : Nat} (k1 : 1 ≤ k) (kn : k ≤ n) : ∃ l, l ∈ chs n k ∧ (∀ q ∈ chs n k, rchL t (En n) l ≤ rchL t (En n) q) ∧ (k = 1 → ∃ i, i < n ∧ l = [i] ∧ ∀ j, j < i → rchL t (En n) [i] < rchL t (En n) [j]) ∧ F_centers [tF n t, .int (k : Nat)] s = some (keyD (rchL t (En n) l) l, s) := by
  have n1 := h.n1
  have c1 := fun s => chkD (s := s) h
  have ec := choice (s := s) h6 (k := k) (by omega)
  have rn : rg1 [.int (n : Nat)] = some (seqF n fun i => .int (i : Nat)) := rg1_F (by omega)
  obtain ⟨L, hL⟩ : ∃ L, L = chs n k := ⟨_, rfl⟩
  obtain ⟨g, hg⟩ : ∃ g : Nat → List Nat, g = fun i => L.getD i [] := ⟨_, rfl⟩
  obtain ⟨v, hv⟩ : ∃ v : Nat → Int, v = fun i => rchL t (En n) (g i) := ⟨_, rfl⟩
  have gm : ∀ i, i < L.length → g i ∈ chs n k := fun i hi => by rw [hg, ← hL]; simp [List.getD, hi]
  have g1 : k = 1 → ∀ i, i < L.length → g i = [i] ∧ i < n := fun e i hi => by
    subst e
    rw [hL, chs_one] at hi
    rw [hg, hL, chs_one]
    have hi : i < n := by simpa using hi
    simp [List.getD, hi]
  have ln : 0 < L.length := by rw [hL]; exact chs_ne kn
  have loop : Yx (sForN (iSeq (eFn (fun ds => if ds.length = 2 then F_choices ds else M.no) (eAs (eCall bLen (eAs (eVar 0) eAs0)) (eAs (eVar 1) eAs0)))) (gN 3) b_centers_3 [.rd (tF n t), .rd (.int (k : Nat)), .rd .non, .no, .no, .no, .no] s) (fun δ s' => s' = s ∧ ∃ B A C : Sl, δ = [.rd (tF n t), .rd (.int (k : Nat)), .rd B.d.get!, A, C, .no, .no] ∧ ∃ j, j < L.length ∧ B = .rd (keyD (v j) (g j)) ∧ (∀ j', j' < L.length → v j ≤ v j') ∧ (k = 1 → ∀ j', j' < j → v j < v j')) := by
    refine .imp (Yl.forN (n := L.length) (f := fun i => pL (g i)) (s1 := s) (fun i δ s' => s' = s ∧ ∃ (b : D) (A C : Sl), δ = [.rd (tF n t), .rd (.int (k : Nat)), .rd b, A, C, .no, .no] ∧ ((i = 0 ∧ b = .non) ∨ ∃ j, j < i ∧ b = keyD (v j) (g j) ∧ (∀ j', j' < i → v j ≤ v j') ∧ (k = 1 → ∀ j', j' < j → v j < v j'))) (by
      have e := lst_seq [] pL L
      rw [hL] at e
      simp [ec, e, hg, hL]) rfl ⟨rfl, .non, _, _, rfl, .inl ⟨rfl, rfl⟩⟩ ?_) ?_
    · rintro i δ s' hi ⟨rfl, b, A, C, rfl, hb⟩
      refine ⟨by simp, _, rfl, ?_⟩
      have hc := (mem_chs.mp (gm i hi)).1
      have hlen := (mem_chs.mp (gm i hi)).2
      have hne : g i ≠ [] := fun e => by rw [e] at hlen; simp at hlen; omega
      have ll := asc_len hc
      have cm : ∀ (P Q R W : Sl), Yl (c_centers_2 [.rd (tF n t), P, Q, .rd (pL (g i)), R, W, .no] s') (vL n fun j => .int (near t (g i) j)) s' := fun P Q R W => by
        unfold c_centers_2
        refine .lc (s1 := s') (f := fun i => .int (i : Nat)) (by simp [rn]) (by omega) fun j hj => ⟨_, rfl, rfl, ?_⟩
        refine .call (.as1 (d := .lst (((g i).map fun c => t j c).map .int)) ?_) (min_lst (map_ne hne))
        rw [List.map_map]
        unfold c_centers_1
        refine .lcL (s1 := s') (l := g i) (f := fun i => .int (i : Nat)) (by simp [pL]) (by omega) fun c hc' => ⟨_, rfl, rfl, ?_⟩
        have := hc.2 c hc'
        simp (disch := omega)
      have mxe : bMaxS [vL n fun j => .int (near t (g i) j)] = some (.int (v i)) := by rw [max_L n1, hv]; rfl
      unfold b_centers_3
      refine .seq (.set (d := keyD (v i) (g i)) (.tup (ds := [.int (v i), pL (g i)]) (.as_ (s1 := s') (.call (.as1 (cm _ _ _ _)) mxe) (.as1 (by simp))) (by simp)) (by simp [keyD])) ?_
      simp only [List.set_cons_succ, List.set_cons_zero]
      rcases hb with ⟨e0, rfl⟩ | ⟨j, hj, rfl, h2, h3⟩
      · subst e0
        refine .mk (.set (d := keyD (v 0) (g 0)) ?_ (by simp [keyD])) ⟨rfl, _, _, _, rfl, .inr ⟨0, by omega, rfl, fun j' hj' => ?_, fun _ j' hj' => by omega⟩⟩
        · have : dIs .non .non = some (.bl true) := rfl
          simp [eIf, this]
        · have : j' = 0 := by omega
          subst this
          exact Int.le_refl _
      · obtain ⟨b, eb, b1, b2⟩ := key_lt2 (v i) (v j) (g i) (g j)
        have isn : dIs (keyD (v j) (g j)) .non = some (.bl false) := rfl
        cases b with
        | true =>
          refine .mk (.set (d := keyD (v i) (g i)) ?_ (by simp [keyD])) ⟨rfl, _, _, _, rfl, .inr ⟨i, by omega, rfl, fun j' hj' => ?_, fun ek j' hj' => ?_⟩⟩
          · simp [eIf, isn, eb]
          · by_cases e : j' = i
            · subst e; exact Int.le_refl _
            · have := h2 j' (by omega)
              have := b1 rfl
              omega
          · have q1 := (g1 ek i hi).1
            have q2 := (g1 ek j (by omega)).1
            rw [q1, q2] at eb
            have := key_lt1 hj eb rfl
            have := h2 j' hj'
            omega
        | false =>
          refine .mk (.set (d := keyD (v j) (g j)) ?_ (by simp [keyD])) ⟨rfl, _, _, _, rfl, .inr ⟨j, by omega, rfl, fun j' hj' => ?_, h3⟩⟩
          · simp [eIf, isn, eb]
          · by_cases e : j' = i
            · subst e; exact b2 rfl
            · exact h2 j' (by omega)
    · rintro δ s' ⟨rfl, b, A, C, rfl, hb⟩
      rcases hb with ⟨e0, _⟩ | ⟨j, hj, rfl, h2, h3⟩
      · omega
      · exact ⟨rfl, .rd (keyD (v j) (g j)), A, C, rfl, j, hj, rfl, h2, h3⟩
  obtain ⟨δ', s', e, rfl, B, A, C, rfl, j, hj, rfl, h2, h3⟩ := loop
  refine ⟨g j, gm j hj, fun q hq => ?_, fun ek => ?_, R_centers ?_⟩
  · rw [← hL] at hq
    obtain ⟨i, hi, rfl⟩ := List.getElem_of_mem hq
    have := h2 i hi
    rw [hv, hg] at this
    simpa [List.getD, hi, hg] using this
  · obtain ⟨q1, q2⟩ := g1 ek j hj
    refine ⟨j, q2, q1, fun j' hj' => ?_⟩
    have := h3 ek j' hj'
    rw [hv] at this
    simp only at this
    rw [q1, (g1 ek j' (by omega)).1] at this
    exact this
  · unfold g_centers
    have ev : v j = rchL t (En n) (g j) := by rw [hv]
    have kk : (1 : Int) ≤ (k : Int) := by omega
    have kk2 : (k : Int) ≤ (n : Int) := by omega
    refine .seq (.exp (d := .non) (by simp [c1])) (.seq (.pass (.or0 (s1 := s') (by simp) (by simp [kk, kk2]))) (.seq (.set (d := .non) (by simp) rfl) (.seq e (.ret ?_))))
    rw [← ev]
    rfl
end
end PF
set_option Elab.async false
set_option linter.all false
set_option maxRecDepth 100000
set_option maxHeartbeats 1000000
/-! GM: nets, points spread out, subsets. -/
namespace PF
open PySem PySem.Spec PyProof.Rows L2 DL PySem.W
theorem all_lst (l : List Nat) (p : Nat → Bool) : bAll [.lst (l.map fun i => D.bl (p i))] = some (.bl (l.all p)) := by
  have e2 : D.lst (l.map fun i => D.bl (p i)) = vL l.length fun i => .bl (p (l.getD i 0)) := congrArg D.lst (lst_seq 0 (fun i => D.bl (p i)) l)
  have e3 : l.all p = allF l.length fun i => p (l.getD i 0) := by
    rw [Bool.eq_iff_iff, allF_iff, List.all_eq_true]
    constructor
    · intro h i hi
      exact h _ (getD_mem hi)
    · intro h x hx
      obtain ⟨i, hi, rfl⟩ := List.getElem_of_mem hx
      simpa [List.getD, hi] using h i hi
  rw [e2, all_F, e3]
theorem index_F {n : Nat} {f : Nat → Int} {k : Int} (hk : ∃ i, i < n ∧ f i = k) : ∃ j, j < n ∧ mIndex (vL n fun j => .int (f j)) (.int k) = some (.int (j : Nat)) := by
  have hfl : (seqF n fun j => D.int (f j)).all flatD = true := by
    unfold seqF
    rw [List.all_map]
    exact List.all_eq_true.mpr fun _ _ => rfl
  obtain ⟨j, hj⟩ : ∃ j, (seqF n fun j => D.int (f j)).findIdx? (fun y => eqF y (.int k)) = some j := by
    cases c : (seqF n fun j => D.int (f j)).findIdx? fun y => eqF y (.int k) with
    | some j => exact ⟨j, rfl⟩
    | none =>
      obtain ⟨i, hi, e⟩ := hk
      have hm : D.int (f i) ∈ seqF n fun j => D.int (f j) := List.mem_map.mpr ⟨i, List.mem_range.mpr hi, rfl⟩
      have := List.findIdx?_eq_none_iff.mp c _ hm
      have h2 : eqF (.int (f i)) (.int k) = true := by
        show (f i == k) = true
        rw [e]; exact beq_self_eq_true k
      rw [h2] at this
      cases this
  obtain ⟨h1, _, _⟩ := List.findIdx?_eq_some_iff_getElem.mp hj
  rw [seqF_len] at h1
  refine ⟨j, h1, ?_⟩
  show (if (flatD (.int k) && (seqF n fun j => D.int (f j)).all flatD) = true then _ else _) = _
  rw [hfl, if_pos (show (flatD (.int k) && true) = true from rfl), hj]; rfl
section
variable {n : Nat} {t : Nat → Nat → Int} {size : Int} {l : List Nat} {s : Src}
/-- far apart, near all of the first m points -/
structure Net (n : Nat) (t : Nat → Nat → Int) (size : Int) (m : Nat) (l : List Nat) : Prop where
  asc : Asc m l
  far : ∀ a ∈ l, ∀ b ∈ l, a < b → size < t a b
  nr : ∀ x, x < m → ∃ c ∈ l, t x c ≤ size
theorem netE (h : Dist n t) (h0 : 0 ≤ size) : ∃ l, Net n t size n l ∧ F_net [tF n t, .int size] s = some (pL l, s) := by
  have n8 := h.n8
  have c1 := fun s => chkD (s := s) h
  have c2 := fun s => chkSz (s := s) h0
  have rn : rg1 [.int (n : Nat)] = some (seqF n fun i => .int (i : Nat)) := rg1_F (by omega)
  have loop : Yx (sFor (iOf rg1 (eAs (eCall bLen (eAs (eVar 0) eAs0)) eAs0)) (gN 3) b_net_2 [.rd (tF n t), .rd (.int size), .ow (.lst []), .no, .no] s) (fun δ s' => s' = s ∧ ∃ (l : List Nat) (A B : Sl), δ = [.rd (tF n t), .rd (.int size), .ow (.lst (l.map fun i => .int (i : Nat))), A, B] ∧ Net n t size n l) := by
    refine Yl.for_ (n := n) (f := fun i => .int (i : Nat)) (s1 := s) (fun i δ s' => s' = s ∧ ∃ (l : List Nat) (A B : Sl), δ = [.rd (tF n t), .rd (.int size), .ow (.lst (l.map fun i => .int (i : Nat))), A, B] ∧ Net n t size i l) (by simp [rn]) ⟨rfl, [], _, _, rfl, ⟨List.Pairwise.nil, fun x hx => by simp at hx⟩, fun a ha => by simp at ha, fun x hx => by omega⟩ ?_
    rintro i δ s' hi ⟨rfl, l, A, B, rfl, hN⟩
    refine ⟨rfl, _, rfl, ?_⟩
    have ll := asc_len hN.asc
    have cm : Yl (c_net_1 [.rd (tF n t), .rd (.int size), .ow (.lst (l.map fun i => .int (i : Nat))), .rd (.int (i : Nat)), B] s') (.lst (l.map fun c => .bl (decide (t i c > size)))) s' := by
      unfold c_net_1
      refine .lcL (s1 := s') (l := l) (f := fun i => .int (i : Nat)) (by simp) (by omega) fun c hc => ⟨_, rfl, rfl, ?_⟩
      have := hN.asc.2 c hc
      simp (disch := omega)
    unfold b_net_2
    cases ha : l.all fun c => decide (t i c > size) with
    | true =>
      have ha' := List.all_eq_true.mp ha
      refine .ifT (.bTr (.call (.as1 cm) (all_lst l _)) (by rw [ha]; rfl)) (.mk (.app (v := .int (i : Nat)) (s1 := s') rfl (by simp; omega) (by simp) rfl) ⟨rfl, l ++ [i], .rd (.int (i : Nat)), B, by simp, ?_, fun a hma b hmb hab => ?_, fun x hx => ?_⟩)
      · refine asc_app.mpr ⟨⟨hN.asc.1, fun x hx => by have := hN.asc.2 x hx; omega⟩, ?_, by omega⟩
        rcases nil_or_app l with rfl | ⟨l', x, rfl⟩
        · exact Nat.zero_le _
        · rw [nxt_app]
          have := hN.asc.2 x (by simp)
          omega
      · rcases List.mem_append.mp hma with hx | hx <;> rcases List.mem_append.mp hmb with hy | hy
        · exact hN.far a hx b hy hab
        · have eb : b = i := by simpa using hy
          subst eb
          have hai := hN.asc.2 a hx
          have := of_decide_eq_true (ha' a hx)
          rw [h.sy a b (by omega) hi]
          exact this
        · have ea : a = i := by simpa using hx
          have := hN.asc.2 b hy
          omega
        · have ea : a = i := by simpa using hx
          have eb : b = i := by simpa using hy
          omega
      · by_cases e : x = i
        · subst e
          exact ⟨x, by simp, by rw [h.dg x hi]; exact h0⟩
        · obtain ⟨c, hc, q⟩ := hN.nr x (by omega)
          exact ⟨c, List.mem_append_left _ hc, q⟩
    | false =>
      refine .mk (.pass (.bTr (.call (.as1 cm) (all_lst l _)) (by rw [ha]; rfl))) ⟨rfl, l, .rd (.int (i : Nat)), B, rfl, ⟨hN.asc.1, fun x hx => by have := hN.asc.2 x hx; omega⟩, hN.far, fun x hx => ?_⟩
      by_cases e : x = i
      · subst e
        obtain ⟨c, hc, q⟩ := List.all_eq_false.mp ha
        exact ⟨c, hc, by simpa using q⟩
      · exact hN.nr x (by omega)
  obtain ⟨δ', s', e, rfl, l, A, B, rfl, hN⟩ := loop
  refine ⟨l, hN, R_net ?_⟩
  unfold g_net
  exact .seq (.exp (d := .non) (by simp [c1])) (.seq (.exp (d := .non) (by simp [c2])) (.seq (.own (d := .lst []) (by simp)) (.seq e (.ret (.call (.as1 (d := .lst (l.map fun i => .int (i : Nat))) (by simp)) rfl)))))
theorem isnetE (h : Dist n t) (h0 : 0 ≤ size) (hN : Net n t size n l) : F_is_net [tF n t, pL l, .int size] s = some (.bl true, s) := by
  have n8 := h.n8
  have c1 := fun s => chkD (s := s) h
  have c2 := fun s => chkSz (s := s) h0
  have ll := asc_len hN.asc
  have rn : rg1 [.int (n : Nat)] = some (seqF n fun i => .int (i : Nat)) := rg1_F (by omega)
  refine R_is_net ?_
  unfold g_is_net
  refine .seq (.exp (d := .non) (by simp [c1])) (.seq (.exp (d := .non) (by simp [c2])) (.seq (.pass (.bTr (.call (.as1 (d := .lst (l.flatMap fun a => (l.filter fun b => decide (a < b)).map fun _ => .bl false)) ?_) (any_allno _ fun d hd => ?_)) rfl)) (.ret (.call (.as1 (d := vL n fun i => .bl (l.any fun c => decide (t i c ≤ size))) ?_) ?_))))
  · unfold c_is_net_1
    refine lc2_eq (s1 := s) (ds := l.map fun i => .int (i : Nat)) (by simp [pL]) (by simp; omega) ?_
    refine cLp2_map (fun i : Nat => D.int (i : Int)) (fun a => (l.filter fun b => decide (a < b)).map fun _ => .bl false) l fun a ha => ⟨_, rfl, rfl, ?_⟩
    refine inLc_eq (s1 := s) (ds := l.map fun i => .int (i : Nat)) (by simp [pL]) (by simp; omega) ?_
    refine cLp_filter (fun i : Nat => D.int (i : Int)) (fun b => decide (a < b)) (fun _ => .bl false) l fun b hb => ⟨_, rfl, ?_, fun e => ?_⟩
    · simp
    · have hab := of_decide_eq_true e
      have := hN.far a ha b hb hab
      have := hN.asc.2 a ha
      have := hN.asc.2 b hb
      simp (disch := omega)
      omega
  · obtain ⟨_, _, h2⟩ := List.mem_flatMap.mp hd
    obtain ⟨_, _, e⟩ := List.mem_map.mp h2
    exact e.symm
  · unfold c_is_net_3
    refine .lc (s1 := s) (f := fun i => .int (i : Nat)) (by simp [rn]) (by omega) fun i hi => ⟨_, rfl, rfl, ?_⟩
    refine .call (.as1 (d := .lst (l.map fun c => .bl (decide (t i c ≤ size)))) ?_) (any_lst l _)
    unfold c_is_net_2
    refine .lcL (s1 := s) (l := l) (f := fun i => .int (i : Nat)) (by simp [pL]) (by omega) fun c hc => ⟨_, rfl, rfl, ?_⟩
    have := hN.asc.2 c hc
    simp (disch := omega)
  · rw [all_F]
    have : (allF n fun i => l.any fun c => decide (t i c ≤ size)) = true := allF_iff.mpr fun i hi => by
      obtain ⟨c, hc, q⟩ := hN.nr i hi
      exact List.any_eq_true.mpr ⟨c, hc, decide_eq_true q⟩
    rw [this]
/-- loops that go on for m turns -/
theorem wUp {tst : Ev → M Bool} {b : FS} (I : Nat → Ev → Prop) (m : Nat) (h1 : ∀ i δ, i < m → I i δ → Yl (tst δ s) true s ∧ ∃ δ', Yl (b δ s) (.nx δ') s ∧ I (i + 1) δ') (h2 : ∀ δ, I m δ → Yl (tst δ s) false s) : ∀ (k i f : Nat) (δ : Ev), m - i = k → i ≤ m → k < f → I i δ → ∃ δ', Yl (wLp tst b f δ s) (.nx δ') s ∧ I m δ'
  | 0, i, 0, δ, _, _, hf, _ => by omega
  | 0, i, f + 1, δ, e, hi, hf, hI => by
    have : i = m := by omega
    subst this
    refine ⟨δ, ?_, hI⟩
    have t := (h2 δ hI).eq
    unfold Yl
    rw [wLp, bd_ap, t]; rfl
  | k + 1, i, 0, δ, _, _, hf, _ => by omega
  | k + 1, i, f + 1, δ, e, hi, hf, hI => by
    obtain ⟨t1, δ1, t2, hI1⟩ := h1 i δ (by omega) hI
    obtain ⟨δ', e1, e2⟩ := wUp I m h1 h2 k (i + 1) f δ1 (by omega) (by omega) (by omega) hI1
    refine ⟨δ', ?_, e2⟩
    have t1 := t1.eq
    have t2 := t2.eq
    unfold Yl at e1 ⊢
    rw [wLp, bd_ap, t1, Option.bind_some]
    show ((b δ).bd _) s = _
    rw [bd_ap, t2]
    exact e1
theorem spreadE (h : Dist n t) {k : Nat} (k1 : 1 ≤ k) (kn : k ≤ n) : ∃ L : List Nat, (∀ x ∈ L, x < n) ∧ L.length = k ∧ F_spread_out [tF n t, .int (k : Nat)] s = some (.tup [pL L, .int (rchL t (En n) L)], s) := by
  have n8 := h.n8
  have n1 := h.n1
  have c1 := fun s => chkD (s := s) h
  have rn : rg1 [.int (n : Nat)] = some (seqF n fun i => .int (i : Nat)) := rg1_F (by omega)
  obtain ⟨δ', e, L, A, B, C, rfl, hL, hl⟩ := wUp (s := s) (tst := t_spread_out_4) (b := b_spread_out_3) (fun i δ => ∃ (L : List Nat) (A B C : Sl), δ = [.rd (tF n t), .rd (.int (k : Nat)), .ow (.lst (L.map fun i => .int (i : Nat))), A, B, C] ∧ (∀ x ∈ L, x < n) ∧ L.length = i + 1) (k - 1) (by
    rintro i δ hi ⟨L, A, B, C, rfl, hL, hl⟩
    have hne : L ≠ [] := fun e => by rw [e] at hl; simp at hl
    refine ⟨?_, ?_⟩
    · unfold t_spread_out_4
      refine .bOf ?_
      have eL : bLen [.lst (L.map fun i => D.int ((i : Nat) : Int))] = some (.int ((i : Int) + 1)) := by
        show some (D.int (((L.map _).length : Nat) : Int)) = _
        rw [List.length_map, hl]; rfl
      simp [eL]
      omega
    · obtain ⟨j, hj, ej⟩ := index_F (n := n) (f := near t L) (k := mxF n (near t L)) (mxF_in _ n1)
      unfold b_spread_out_3
      refine ⟨[.rd (tF n t), .rd (.int (k : Nat)), .ow (.lst ((L ++ [j]).map fun i => .int (i : Nat))), .ow (vL n fun i => .int (near t L i)), B, C], .seq (.own (d := vL n fun i => .int (near t L i)) ?_) ?_, L ++ [j], _, _, _, rfl, fun x hx => ?_, by simp [hl]⟩
      · unfold c_spread_out_2
        refine .lc (s1 := s) (f := fun i => .int (i : Nat)) (by simp [rn]) (by omega) fun i hi => ⟨_, rfl, rfl, .lf (.call (.as1 (d := .lst ((L.map fun c => t i c).map .int)) ?_) (min_lst (map_ne hne))) rfl⟩
        rw [List.map_map]
        unfold c_spread_out_1
        refine .lcL (s1 := s) (l := L) (f := fun i => .int (i : Nat)) (by simp) (by omega) fun c hc => ⟨_, rfl, rfl, ?_⟩
        have := hL c hc
        simp (disch := omega)
      · simp only [List.set_cons_succ, List.set_cons_zero]
        have a := Yl.app (i := 2) (f := e2 mIndex (eVar 3) (eCall bMaxS (eAs (eVar 3) eAs0))) (δ := [.rd (tF n t), .rd (.int (k : Nat)), .ow (.lst (L.map fun i => .int (i : Nat))), .ow (vL n fun i => .int (near t L i)), B, C]) (s := s) (s1 := s) (v := .int (j : Nat)) rfl (by simp; omega) (by simp [max_L n1, ej]) rfl
        refine a.cast ?_
        simp
      · rcases List.mem_append.mp hx with hx | hx
        · exact hL x hx
        · have : x = j := by simpa using hx
          omega) (by
    rintro δ ⟨L, A, B, C, rfl, hL, hl⟩
    unfold t_spread_out_4
    refine .bOf ?_
    have eL : bLen [.lst (L.map fun i => D.int ((i : Nat) : Int))] = some (.int (k : Nat)) := by
      show some (D.int (((L.map _).length : Nat) : Int)) = _
      rw [List.length_map, hl, show k - 1 + 1 = k by omega]
    simp [eL]) (k - 1) 0 1000000 [.rd (tF n t), .rd (.int (k : Nat)), .ow (.lst [.int 0]), .no, .no, .no] (by omega) (by omega) (by omega) ⟨[0], _, _, _, rfl, fun x hx => by
      have : x = 0 := by simpa using hx
      omega, rfl⟩
  have hne : L ≠ [] := fun e => by rw [e] at hl; simp at hl
  refine ⟨L, hL, by omega, R_spread_out ?_⟩
  unfold g_spread_out
  have kk : (1 : Int) ≤ (k : Int) := by omega
  have kk2 : (k : Int) ≤ (n : Int) := by omega
  refine .seq (.exp (d := .non) (by simp [c1])) (.seq (.pass (.or0 (s1 := s) (by simp) (by simp [kk, kk2]))) (.seq (.own (d := .lst [.int 0]) (by simp)) (.seq e (.ret (.tup (ds := [pL L, .int (rchL t (En n) L)]) (.as_ (s1 := s) (.call (.as1 (d := .lst (L.map fun i => .int (i : Nat))) (by simp)) rfl) (.as1 (.call (.as1 (d := vL n fun i => .int (near t L i)) ?_) ?_))) (by simp))))))
  · unfold c_spread_out_6
    refine .lc (s1 := s) (f := fun i => .int (i : Nat)) (by simp [rn]) (by omega) fun i hi => ⟨_, rfl, rfl, .call (.as1 (d := .lst ((L.map fun c => t i c).map .int)) ?_) (min_lst (map_ne hne))⟩
    rw [List.map_map]
    unfold c_spread_out_5
    refine .lcL (s1 := s) (l := L) (f := fun i => .int (i : Nat)) (by simp) (by omega) fun c hc => ⟨_, rfl, rfl, ?_⟩
    have := hL c hc
    simp (disch := omega)
  · rw [max_L n1]; rfl
/-! subsets -/
def subs : Nat → List (List Nat)
  | 0 => [[]]
  | x + 1 => subs x ++ (subs x).map fun l => l ++ [x]
theorem mem_subs : ∀ {m : Nat} {l : List Nat}, l ∈ subs m ↔ Asc m l
  | 0, l => by
    rw [subs, List.mem_singleton]
    constructor
    · rintro rfl
      exact ⟨List.Pairwise.nil, fun x hx => by simp at hx⟩
    · rintro ⟨_, h⟩
      cases l with
      | nil => rfl
      | cons a l => exact absurd (h a List.mem_cons_self) (by omega)
  | m + 1, l => by
    rw [subs, List.mem_append, mem_subs]
    constructor
    · rintro (⟨h1, h2⟩ | h)
      · exact ⟨h1, fun x hx => by have := h2 x hx; omega⟩
      · obtain ⟨l', h1, rfl⟩ := List.mem_map.mp h
        obtain ⟨a, b⟩ := mem_subs.mp h1
        refine asc_app.mpr ⟨⟨a, fun x hx => by have := b x hx; omega⟩, ?_, by omega⟩
        rcases nil_or_app l' with rfl | ⟨l2, x, rfl⟩
        · exact Nat.zero_le _
        · rw [nxt_app]
          have := b x (by simp)
          omega
    · intro h
      rcases nil_or_app l with rfl | ⟨l', x, rfl⟩
      · exact .inl ⟨List.Pairwise.nil, fun x hx => by simp at hx⟩
      · obtain ⟨⟨a, b⟩, c, d⟩ := asc_app.mp h
        have ha' : Asc x l' := ⟨a, fun y hy => by
          have := (List.pairwise_append.mp h.1).2.2 y hy x (by simp)
          exact this⟩
        by_cases e : x = m
        · subst e
          exact .inr (List.mem_map.mpr ⟨l', mem_subs.mpr ha', rfl⟩)
        · refine .inl ⟨h.1, fun y hy => ?_⟩
          rcases List.mem_append.mp hy with hy | hy
          · have := ha'.2 y hy
            omega
          · have : y = x := by simpa using hy
            omega
theorem subs_len : ∀ m, m < 7 → (subs m).length ≤ 64 := by decide +kernel
theorem subs_head : ∀ m, ∃ r, subs m = [] :: r
  | 0 => ⟨[], rfl⟩
  | m + 1 => by
    obtain ⟨r, e⟩ := subs_head m
    exact ⟨r ++ (subs m).map (fun l => l ++ [m]), by rw [subs, e]; rfl⟩
theorem subsetsE (h6 : n ≤ 6) : ∃ P : List (List Nat), (∀ l, l ∈ P ↔ Asc n l) ∧ P.length ≤ 64 ∧ F__law_subsets [.int (n : Nat)] s = some (.lst (P.map pL), s) := by
  have rn : rg1 [.int (n : Nat)] = some (seqF n fun i => .int (i : Nat)) := rg1_F (by omega)
  have hp := sortE_perm ((subs n).map intsN)
  obtain ⟨P, hP, eP⟩ := perm_unmap (f := intsN) (fun x => x.map Int.toNat) (fun l => by unfold intsN; rw [List.map_map]; simp [Function.comp_def]) hp
  refine ⟨P, fun l => hP.mem_iff.trans mem_subs, by rw [hP.length_eq]; exact subs_len n (by omega), R__law_subsets ?_⟩
  unfold g__law_subsets
  refine .seq (.own (d := .lst ((subs 0).map pL)) (by simp [subs, pL])) (.then_ (P := fun δ s' => ∃ A B : Sl, δ = [.rd (.int (n : Nat)), .ow (.lst ((subs n).map pL)), A, B] ∧ s' = s) ?_ fun δ s' ⟨A, B, e, es⟩ => ?_)
  · refine Yl.for_ (n := n) (f := fun i => .int (i : Nat)) (s1 := s) (fun i δ s' => ∃ A B : Sl, δ = [.rd (.int (n : Nat)), .ow (.lst ((subs i).map pL)), A, B] ∧ s' = s) (by simp [rn]) ⟨_, _, rfl, rfl⟩ ?_
    rintro i δ s' hi ⟨A, B, rfl, rfl⟩
    refine ⟨rfl, _, rfl, ?_⟩
    have hl := subs_len i (by omega)
    unfold b__law_subsets_2
    refine .mk (.own (d := .lst ((subs (i + 1)).map pL)) (.e2 (s1 := s') (a := .lst ((subs i).map pL)) (b := .lst ((subs i).map fun l => pL (l ++ [i]))) (by simp) ?_ ?_)) ⟨_, _, rfl, rfl⟩
    · unfold c__law_subsets_1
      refine .lcL (s1 := s') (l := subs i) (f := pL) (by simp) (by omega) fun l hl' => ⟨_, rfl, rfl, ?_⟩
      have al := asc_len (mem_subs.mp hl')
      have := pL_app l i (by omega)
      exact .e2 (s1 := s') (a := pL l) (b := .tup [.int (i : Nat)]) (by simp) (by simp) this
    · show (if _ then _ else _) = _
      rw [if_pos ⟨by simp; omega, lfs_map (fun l => lf_pL l) _, lfs_map (fun l => lf_pL _) _⟩, subs, List.map_append, List.map_map]; rfl
  · subst e es
    have eb : bSortedE [.lst ((subs n).map pL)] = some (.lst (P.map pL)) := by
      have e1 : (subs n).map pL = ((subs n).map intsN).map fun x => D.tup (x.map .int) := by
        rw [List.map_map]
        exact List.map_congr_left fun l _ => pL_ints l
      have e2 : P.map pL = (P.map intsN).map fun x => D.tup (x.map .int) := by
        rw [List.map_map]
        exact List.map_congr_left fun l _ => pL_ints l
      rw [e1, e2, eP]
      obtain ⟨r, er⟩ := subs_head n
      have hl := subs_len n (by omega)
      rw [er] at hl ⊢
      show (tupsL _).bind _ = _
      rw [tupsL_map, Option.bind_some]
      show (if _ then _ else _) = _
      rw [if_pos (by simp at hl ⊢; omega)]
    exact .ret (.call (.as1 (d := .lst ((subs n).map pL)) (by simp)) eb)
end
end PF
set_option Elab.async false
set_option linter.all false
set_option maxRecDepth 100000
set_option maxHeartbeats 4000000
namespace K36
open PySem PySem.Spec PyProof.Rows L2 DL PF
/-! printed by gen.py -/
def topS (i : Nat) : Stmt := PySem.Challenge.pw_farandnear_k36_whole_covers_as_distances.main.body.getD i (.Pass ⟨0, 0, 0, 0⟩)
structure Tx (K : PySem.W.Frag) (mg : Str → Option Value) where
  f_is_integer : Addr
  fd_is_integer : FuncData
  F_is_integer : Fun K "is_integer" "is_integer" (topS 4) f_is_integer fd_is_integer
  g_is_integer : mg "is_integer" = some (.ref f_is_integer)
  b_is_integer : Binds K fd_is_integer ["value"] []
  f_check_table : Addr
  fd_check_table : FuncData
  F_check_table : Fun K "check_table" "check_table" (topS 8) f_check_table fd_check_table
  g_check_table : mg "check_table" = some (.ref f_check_table)
  b_check_table : Binds K fd_check_table ["table"] []
  f_choices : Addr
  fd_choices : FuncData
  F_choices : Fun K "choices" "choices" (topS 9) f_choices fd_choices
  g_choices : mg "choices" = some (.ref f_choices)
  b_choices : Binds K fd_choices ["many", "size"] []
  f_distance_paper : Addr
  fd_distance_paper : FuncData
  F_distance_paper : Fun K "distance_paper" "distance_paper" (topS 10) f_distance_paper fd_distance_paper
  g_distance_paper : mg "distance_paper" = some (.ref f_distance_paper)
  b_distance_paper : Binds K fd_distance_paper ["table"] []
  f_check_distances : Addr
  fd_check_distances : FuncData
  F_check_distances : Fun K "check_distances" "check_distances" (topS 11) f_check_distances fd_check_distances
  g_check_distances : mg "check_distances" = some (.ref f_check_distances)
  b_check_distances : Binds K fd_check_distances ["table"] []
  f_widths : Addr
  fd_widths : FuncData
  F_widths : Fun K "widths" "widths" (topS 12) f_widths fd_widths
  g_widths : mg "widths" = some (.ref f_widths)
  b_widths : Binds K fd_widths ["table"] []
  f_radius : Addr
  fd_radius : FuncData
  F_radius : Fun K "radius" "radius" (topS 13) f_radius fd_radius
  g_radius : mg "radius" = some (.ref f_radius)
  b_radius : Binds K fd_radius ["table"] []
  f_ball : Addr
  fd_ball : FuncData
  F_ball : Fun K "ball" "ball" (topS 14) f_ball fd_ball
  g_ball : mg "ball" = some (.ref f_ball)
  b_ball : Binds K fd_ball ["table", "center", "size"] []
  f_check_part : Addr
  fd_check_part : FuncData
  F_check_part : Fun K "check_part" "check_part" (topS 16) f_check_part fd_check_part
  g_check_part : mg "check_part" = some (.ref f_check_part)
  b_check_part : Binds K fd_check_part ["table", "part"] []
  f_reach : Addr
  fd_reach : FuncData
  F_reach : Fun K "reach" "reach" (topS 17) f_reach fd_reach
  g_reach : mg "reach" = some (.ref f_reach)
  b_reach : Binds K fd_reach ["table", "part", "other"] []
  f_part_distance : Addr
  fd_part_distance : FuncData
  F_part_distance : Fun K "part_distance" "part_distance" (topS 18) f_part_distance fd_part_distance
  g_part_distance : mg "part_distance" = some (.ref f_part_distance)
  b_part_distance : Binds K fd_part_distance ["table", "part", "other"] []
  f_check_size : Addr
  fd_check_size : FuncData
  F_check_size : Fun K "check_size" "check_size" (topS 20) f_check_size fd_check_size
  g_check_size : mg "check_size" = some (.ref f_check_size)
  b_check_size : Binds K fd_check_size ["size"] []
  f_covers : Addr
  fd_covers : FuncData
  F_covers : Fun K "covers" "covers" (topS 21) f_covers fd_covers
  g_covers : mg "covers" = some (.ref f_covers)
  b_covers : Binds K fd_covers ["table", "size"] []
  f_centers : Addr
  fd_centers : FuncData
  F_centers : Fun K "centers" "centers" (topS 22) f_centers fd_centers
  g_centers : mg "centers" = some (.ref f_centers)
  b_centers : Binds K fd_centers ["table", "many"] []
  f_spread_out : Addr
  fd_spread_out : FuncData
  F_spread_out : Fun K "spread_out" "spread_out" (topS 23) f_spread_out fd_spread_out
  g_spread_out : mg "spread_out" = some (.ref f_spread_out)
  b_spread_out : Binds K fd_spread_out ["table", "many"] []
  f_is_net : Addr
  fd_is_net : FuncData
  F_is_net : Fun K "is_net" "is_net" (topS 24) f_is_net fd_is_net
  g_is_net : mg "is_net" = some (.ref f_is_net)
  b_is_net : Binds K fd_is_net ["table", "part", "size"] []
  f_net : Addr
  fd_net : FuncData
  F_net : Fun K "net" "net" (topS 25) f_net fd_net
  g_net : mg "net" = some (.ref f_net)
  b_net : Binds K fd_net ["table", "size"] []
  f__law_begin : Addr
  fd__law_begin : FuncData
  F__law_begin : Fun K "_law_begin" "_law_begin" (topS 27) f__law_begin fd__law_begin
  g__law_begin : mg "_law_begin" = some (.ref f__law_begin)
  b__law_begin : Binds K fd__law_begin ["script"] []
  f__law_take : Addr
  fd__law_take : FuncData
  F__law_take : Fun K "_law_take" "_law_take" (topS 28) f__law_take fd__law_take
  g__law_take : mg "_law_take" = some (.ref f__law_take)
  b__law_take : Binds K fd__law_take ["d", "many"] []
  f__law_shuffled : Addr
  fd__law_shuffled : FuncData
  F__law_shuffled : Fun K "_law_shuffled" "_law_shuffled" (topS 29) f__law_shuffled fd__law_shuffled
  g__law_shuffled : mg "_law_shuffled" = some (.ref f__law_shuffled)
  b__law_shuffled : Binds K fd__law_shuffled ["d", "n"] []
  f__law_tree : Addr
  fd__law_tree : FuncData
  F__law_tree : Fun K "_law_tree" "_law_tree" (topS 30) f__law_tree fd__law_tree
  g__law_tree : mg "_law_tree" = some (.ref f__law_tree)
  b__law_tree : Binds K fd__law_tree ["d", "n", "more", "top"] []
  f__law_along : Addr
  fd__law_along : FuncData
  F__law_along : Fun K "_law_along" "_law_along" (topS 31) f__law_along fd__law_along
  g__law_along : mg "_law_along" = some (.ref f__law_along)
  b__law_along : Binds K fd__law_along ["joints", "edges"] []
  f__law_table : Addr
  fd__law_table : FuncData
  F__law_table : Fun K "_law_table" "_law_table" (topS 32) f__law_table fd__law_table
  g__law_table : mg "_law_table" = some (.ref f__law_table)
  b__law_table : Binds K fd__law_table ["d", "n", "top"] []
  f__law_short : Addr
  fd__law_short : FuncData
  F__law_short : Fun K "_law_short" "_law_short" (topS 33) f__law_short fd__law_short
  g__law_short : mg "_law_short" = some (.ref f__law_short)
  b__law_short : Binds K fd__law_short ["table"] []
  f__law_pick : Addr
  fd__law_pick : FuncData
  F__law_pick : Fun K "_law_pick" "_law_pick" (topS 34) f__law_pick fd__law_pick
  g__law_pick : mg "_law_pick" = some (.ref f__law_pick)
  b__law_pick : Binds K fd__law_pick ["d", "menu"] []
  f__law_distances : Addr
  fd__law_distances : FuncData
  F__law_distances : Fun K "_law_distances" "_law_distances" (topS 35) f__law_distances fd__law_distances
  g__law_distances : mg "_law_distances" = some (.ref f__law_distances)
  b__law_distances : Binds K fd__law_distances ["d", "n"] []
  f__law_subsets : Addr
  fd__law_subsets : FuncData
  F__law_subsets : Fun K "_law_subsets" "_law_subsets" (topS 36) f__law_subsets fd__law_subsets
  g__law_subsets : mg "_law_subsets" = some (.ref f__law_subsets)
  b__law_subsets : Binds K fd__law_subsets ["n"] []
  n_abs : mg "abs" = none
  n_all : mg "all" = none
  n_any : mg "any" = none
  n_bool : mg "bool" = none
  n_enumerate : mg "enumerate" = none
  n_int : mg "int" = none
  n_isinstance : mg "isinstance" = none
  n_len : mg "len" = none
  n_list : mg "list" = none
  n_max : mg "max" = none
  n_min : mg "min" = none
  n_range : mg "range" = none
  n_set : mg "set" = none
  n_sorted : mg "sorted" = none
  n_tuple : mg "tuple" = none
  n_zip : mg "zip" = none
  c_MOST_FAR : ∃ t, mg "MOST_FAR" = some (.int 1000 t)
  c_MOST_POINTS : ∃ t, mg "MOST_POINTS" = some (.int 8 t)
section
variable {P : Program} {w : World} {K : PySem.W.Frag} {mg : Str → Option Value} {base : Heap}
/-! is_integer -/
theorem sc_is_integer : FnScope ["value"] ["value"] (defScope (topS 4)) := ⟨rfl, rfl, rfl, by decide +kernel, rfl, by decide +kernel, by decide +kernel⟩
theorem ok_is_integer (T : Tx K mg) : FnOk P w K mg base CX0 1 T.f_is_integer T.fd_is_integer ["value"] (spD 1 F_is_integer) :=
  fn_ok (N := ["value"]) T.F_is_integer sc_is_integer (by decide) (fun cdv A outer s H E hr => (show DSs _ _ g_is_integer from (ds_one (ds_ret (d_and (d_isi (by rfl) T.n_isinstance (by rfl) T.n_int PyProof.Rows.boot_int (d_var 0)) (d_one (d_not (d_isi (by rfl) T.n_isinstance (by rfl) T.n_bool (by decide +kernel) (d_var 0)))))))))
/-! check_table -/
theorem sc_check_table : FnScope ["table", "row", "at", "each", "to"] ["table"] (defScope (topS 8)) := ⟨rfl, rfl, rfl, by decide +kernel, rfl, by decide +kernel, by decide +kernel⟩
theorem ok_check_table (T : Tx K mg) : FnOk P w K mg base CX0 2 T.f_check_table T.fd_check_table ["table"] (spD 1 F_check_table) :=
  fn_ok (N := ["table", "row", "at", "each", "to"]) T.F_check_table sc_check_table (by decide) (fun cdv A outer s H E hr => (show DSs _ _ g_check_table from (ds_cons (ds_if (PW.pt (dw_or (dt_not (dt_tr (d_isi (by rfl) T.n_isinstance (by rfl) T.n_tuple PyProof.Rows.boot_tuple (d_var 0)))) (dw_or1 (dt_not (dt_chain o_le o_le d_int (d_bi b_len (by rfl) T.n_len PySem.boot_len (da_cons (d_var 0) da_nil)) (d_glob (v := .int 8) (d := .int 8) rfl T.c_MOST_POINTS.choose_spec ⟨_, rfl⟩ (fun _ _ => .int _))))))) (ds_one ds_no) ds_nil)
  (ds_cons (ds_for PassesOwn.never rfl (dif_seq (d_var 0)) (sg_name (i := 1) sc_check_table.nd rfl (by first | exact Or.inl rfl | exact Or.inr rfl)) (show DSs _ _ b_check_table_2 from (ds_cons (ds_if (PW.pt (dw_or (dt_not (dt_tr (d_isi (by rfl) T.n_isinstance (by rfl) T.n_tuple PyProof.Rows.boot_tuple (d_var 1)))) (dw_or1 (dt_cmp (o_ne hr.units) (d_bi b_len (by rfl) T.n_len PySem.boot_len (da_cons (d_var 1) da_nil)) (d_bi b_len (by rfl) T.n_len PySem.boot_len (da_cons (d_var 0) da_nil)))))) (ds_one ds_no) ds_nil)
  (ds_one (ds_if (dt_tr (d_bi (b_any rfl) (by rfl) T.n_any boot_any (da_cons (d_lc (own := [("each", 3)]) rfl sc_check_table.nd (di_seq (d_var 1)) (blkOk_by (by kernel_rfl)) (fun _ _ _ _ _ => (dg_name (i := 3) sc_check_table.nd rfl (by first | exact Or.inl rfl | exact Or.inr rfl))) (fun _ _ _ _ _ => dts_nil) (fun _ _ _ _ _ => (d_or (d_not (d_fn (n := 1) ((ok_is_integer T).mono (by decide)) hr rfl T.g_is_integer T.F_is_integer.kp T.b_is_integer pass0 (da_cons (d_var 3) da_nil))) (d_one (d_not (d_chain o_le o_le d_int (d_var 3) (d_glob (v := .int 1000) (d := .int 1000) rfl T.c_MOST_FAR.choose_spec ⟨_, rfl⟩ (fun _ _ => .int _)))))))) da_nil))) (ds_one ds_no) ds_nil)))))
  (ds_one (ds_for PassesOwn.never rfl (dif_enum (by rfl) T.n_enumerate (da_cons (d_var 0) da_nil)) (sg_tup rfl (sgs_cons (sg_name (i := 2) sc_check_table.nd rfl (by first | exact Or.inl rfl | exact Or.inr rfl)) (sgs_cons (sg_name (i := 1) sc_check_table.nd rfl (by first | exact Or.inl rfl | exact Or.inr rfl)) sgs_nil))) (show DSs _ _ b_check_table_4 from (ds_one (ds_if (PW.pt (dw_or (dt_cmp (o_ne hr.units) (d_ix o_ix (d_var 1) (d_var 2)) d_int) (dw_or1 (dt_tr (d_bi (b_any rfl) (by rfl) T.n_any boot_any (da_cons (d_lc (own := [("to", 4)]) rfl sc_check_table.nd (dif (dif_range1 (by rfl) T.n_range (da_cons (d_var 2) da_nil))) (blkOk_by (by kernel_rfl)) (fun _ _ _ _ _ => (dg_name (i := 4) sc_check_table.nd rfl (by first | exact Or.inl rfl | exact Or.inr rfl))) (fun _ _ _ _ _ => dts_nil) (fun _ _ _ _ _ => (d_cmp (o_ne hr.units) (d_ix o_ix (d_var 1) (d_var 4)) (d_ix o_ix (d_ix o_ix (d_var 0) (d_var 4)) (d_var 2))))) da_nil)))))) (ds_one ds_no) ds_nil)))))))))
/-! choices -/
theorem sc_choices : FnScope ["many", "size", "found", "turn", "row", "each"] ["many", "size"] (defScope (topS 9)) := ⟨rfl, rfl, rfl, by decide +kernel, rfl, by decide +kernel, by decide +kernel⟩
theorem ok_choices (T : Tx K mg) : FnOk P w K mg base CX0 1 T.f_choices T.fd_choices ["many", "size"] (spD 2 F_choices) :=
  fn_ok (N := ["many", "size", "found", "turn", "row", "each"]) T.F_choices sc_choices (by decide) (fun cdv A outer s H E hr => (show DSs _ _ g_choices from (ds_cons (ds_own (i := 2) sc_choices.nd rfl (by first | exact Or.inl rfl | exact Or.inr rfl) (df_lst (daf_cons (df_lf (d_tup da_nil)) daf_nil)))
  (ds_cons (ds_for PassesOwn.never rfl (dif_range1 (by rfl) T.n_range (da_cons (d_var 1) da_nil)) (sg_name (i := 3) sc_choices.nd rfl (by first | exact Or.inl rfl | exact Or.inr rfl)) (show DSs _ _ b_choices_2 from (ds_one (ds_setLc2 (i := 2) (own := [("row", 4), ("each", 5)]) rfl sc_choices.nd rfl rfl (sw_true rfl rfl rfl (by kernel_rfl)) (di_seq (d_var 2)) (blkOk_by (by kernel_rfl)) (by decide) (fun _ _ _ _ _ => (dg_sub (vs := [4]) (by decide) (dg_name (i := 4) sc_choices.nd rfl (by first | exact Or.inl rfl | exact Or.inr rfl)))) (fun _ _ _ _ _ => dts_nil) (fun _ _ _ _ _ => (dif (dif_range2 (by rfl) T.n_range (da_cons (d_if (dt_tr (d_var 4)) (d_op o_add (d_ix o_ix (d_var 4) (d_un o_neg d_int)) d_int) d_int) (da_cons (d_var 0) da_nil))))) (fun _ _ _ _ _ => (dg_name (i := 5) sc_choices.nd rfl (by first | exact Or.inl rfl | exact Or.inr rfl))) (fun _ _ _ _ _ => dts_nil) (fun _ _ _ _ _ => (df_lf (d_op o_add (d_var 4) (d_tup (da_cons (d_var 5) da_nil)))))))))
  (ds_one (ds_ret (d_var 2)))))))
/-! distance_paper -/
theorem sc_distance_paper : FnScope ["table", "one", "other", "third"] ["table"] (defScope (topS 10)) := ⟨rfl, rfl, rfl, by decide +kernel, rfl, by decide +kernel, by decide +kernel⟩
theorem ok_distance_paper (T : Tx K mg) : FnOk P w K mg base CX0 3 T.f_distance_paper T.fd_distance_paper ["table"] (spD 1 F_distance_paper) :=
  fn_ok (N := ["table", "one", "other", "third"]) T.F_distance_paper sc_distance_paper (by decide) (fun cdv A outer s H E hr => (show DSs _ _ g_distance_paper from (ds_cons (ds_exp (d_fn (n := 1) ((ok_check_table T).mono (by decide)) hr rfl T.g_check_table T.F_check_table.kp T.b_check_table pass0 (da_cons (d_var 0) da_nil)))
  (ds_cons (ds_forN PassesOwn.never rfl (di_seq (d_fn (n := 2) ((ok_choices T).mono (by decide)) hr rfl T.g_choices T.F_choices.kp T.b_choices pass0 (da_cons (d_bi b_len (by rfl) T.n_len PySem.boot_len (da_cons (d_var 0) da_nil)) (da_cons d_int da_nil)))) (sg_tup rfl (sgs_cons (sg_name (i := 1) sc_distance_paper.nd rfl (by first | exact Or.inl rfl | exact Or.inr rfl)) (sgs_cons (sg_name (i := 2) sc_distance_paper.nd rfl (by first | exact Or.inl rfl | exact Or.inr rfl)) sgs_nil))) (show DSs _ _ b_distance_paper_1 from (ds_one (ds_if (dt_cmp (o_eq hr.units) (d_ix o_ix (d_ix o_ix (d_var 0) (d_var 1)) (d_var 2)) d_int) (ds_one (ds_ret (d_tup (da_cons d_str (da_cons (d_var 1) (da_cons (d_var 2) da_nil)))))) ds_nil))))
  (ds_cons (ds_forN PassesOwn.never rfl (di_seq (d_fn (n := 2) ((ok_choices T).mono (by decide)) hr rfl T.g_choices T.F_choices.kp T.b_choices pass0 (da_cons (d_bi b_len (by rfl) T.n_len PySem.boot_len (da_cons (d_var 0) da_nil)) (da_cons d_int da_nil)))) (sg_tup rfl (sgs_cons (sg_name (i := 1) sc_distance_paper.nd rfl (by first | exact Or.inl rfl | exact Or.inr rfl)) (sgs_cons (sg_name (i := 2) sc_distance_paper.nd rfl (by first | exact Or.inl rfl | exact Or.inr rfl)) sgs_nil))) (show DSs _ _ b_distance_paper_3 from (ds_one (ds_for PassesOwn.never rfl (dif_range1 (by rfl) T.n_range (da_cons (d_bi b_len (by rfl) T.n_len PySem.boot_len (da_cons (d_var 0) da_nil)) da_nil)) (sg_name (i := 3) sc_distance_paper.nd rfl (by first | exact Or.inl rfl | exact Or.inr rfl)) (show DSs _ _ b_distance_paper_2 from (ds_one (ds_if (dt_cmp o_lt (d_op o_add (d_ix o_ix (d_ix o_ix (d_var 0) (d_var 1)) (d_var 3)) (d_ix o_ix (d_ix o_ix (d_var 0) (d_var 3)) (d_var 2))) (d_ix o_ix (d_ix o_ix (d_var 0) (d_var 1)) (d_var 2))) (ds_one (ds_ret (d_tup (da_cons d_str (da_cons (d_var 1) (da_cons (d_var 3) (da_cons (d_var 2) da_nil))))))) ds_nil)))))))
  (ds_one (ds_ret (d_tup (da_cons d_str da_nil)))))))))
/-! check_distances -/
theorem sc_check_distances : FnScope ["table"] ["table"] (defScope (topS 11)) := ⟨rfl, rfl, rfl, by decide +kernel, rfl, by decide +kernel, by decide +kernel⟩
theorem ok_check_distances (T : Tx K mg) : FnOk P w K mg base CX0 4 T.f_check_distances T.fd_check_distances ["table"] (spD 1 F_check_distances) :=
  fn_ok (N := ["table"]) T.F_check_distances sc_check_distances (by decide) (fun cdv A outer s H E hr => (show DSs _ _ g_check_distances from (ds_one (ds_if (dt_cmp (o_ne hr.units) (d_fn (n := 1) ((ok_distance_paper T).mono (by decide)) hr rfl T.g_distance_paper T.F_distance_paper.kp T.b_distance_paper pass0 (da_cons (d_var 0) da_nil)) (d_tup (da_cons d_str da_nil))) (ds_one ds_no) ds_nil))))
/-! widths -/
theorem sc_widths : FnScope ["table", "row"] ["table"] (defScope (topS 12)) := ⟨rfl, rfl, rfl, by decide +kernel, rfl, by decide +kernel, by decide +kernel⟩
theorem ok_widths (T : Tx K mg) : FnOk P w K mg base CX0 3 T.f_widths T.fd_widths ["table"] (spD 1 F_widths) :=
  fn_ok (N := ["table", "row"]) T.F_widths sc_widths (by decide) (fun cdv A outer s H E hr => (show DSs _ _ g_widths from (ds_cons (ds_exp (d_fn (n := 1) ((ok_check_table T).mono (by decide)) hr rfl T.g_check_table T.F_check_table.kp T.b_check_table pass0 (da_cons (d_var 0) da_nil)))
  (ds_one (ds_ret (d_ty b_tup (by rfl) T.n_tuple PyProof.Rows.boot_tuple (da_cons (d_lc (own := [("row", 1)]) rfl sc_widths.nd (di_seq (d_var 0)) (blkOk_by (by kernel_rfl)) (fun _ _ _ _ _ => (dg_name (i := 1) sc_widths.nd rfl (by first | exact Or.inl rfl | exact Or.inr rfl))) (fun _ _ _ _ _ => dts_nil) (fun _ _ _ _ _ => (d_bi (b_maxS rfl) (by rfl) T.n_max boot_max (da_cons (d_var 1) da_nil)))) da_nil)))))))
/-! radius -/
theorem sc_radius : FnScope ["table", "rows", "at", "each"] ["table"] (defScope (topS 13)) := ⟨rfl, rfl, rfl, by decide +kernel, rfl, by decide +kernel, by decide +kernel⟩
theorem ok_radius (T : Tx K mg) : FnOk P w K mg base CX0 4 T.f_radius T.fd_radius ["table"] (spD 1 F_radius) :=
  fn_ok (N := ["table", "rows", "at", "each"]) T.F_radius sc_radius (by decide) (fun cdv A outer s H E hr => (show DSs _ _ g_radius from (ds_cons (ds_set (i := 1) sc_radius.nd rfl (by first | exact Or.inl rfl | exact Or.inr rfl) (d_fn (n := 1) ((ok_widths T).mono (by decide)) hr rfl T.g_widths T.F_widths.kp T.b_widths pass0 (da_cons (d_var 0) da_nil)))
  (ds_one (ds_ret (d_tup (da_cons (d_bi (b_minS rfl) (by rfl) T.n_min boot_min (da_cons (d_var 1) da_nil)) (da_cons (d_ty b_tup (by rfl) T.n_tuple PyProof.Rows.boot_tuple (da_cons (d_lc (own := [("at", 2), ("each", 3)]) rfl sc_radius.nd (di_enum (by rfl) T.n_enumerate (da_cons (d_var 1) da_nil)) (blkOk_by (by kernel_rfl)) (fun _ _ _ _ _ => (dg_tup rfl (dgs_cons (dg_name (i := 2) sc_radius.nd rfl (by first | exact Or.inl rfl | exact Or.inr rfl)) (dgs_cons (dg_name (i := 3) sc_radius.nd rfl (by first | exact Or.inl rfl | exact Or.inr rfl)) dgs_nil)))) (fun _ _ _ _ _ => (dts_one (dt_cmp (o_eq hr.units) (d_var 3) (d_bi (b_minS rfl) (by rfl) T.n_min boot_min (da_cons (d_var 1) da_nil))))) (fun _ _ _ _ _ => (d_var 2))) da_nil)) da_nil))))))))
/-! ball -/
theorem sc_ball : FnScope ["table", "center", "size", "at", "each"] ["table", "center", "size"] (defScope (topS 14)) := ⟨rfl, rfl, rfl, by decide +kernel, rfl, by decide +kernel, by decide +kernel⟩
theorem ok_ball (T : Tx K mg) : FnOk P w K mg base CX0 3 T.f_ball T.fd_ball ["table", "center", "size"] (spD 3 F_ball) :=
  fn_ok (N := ["table", "center", "size", "at", "each"]) T.F_ball sc_ball (by decide) (fun cdv A outer s H E hr => (show DSs _ _ g_ball from (ds_cons (ds_exp (d_fn (n := 1) ((ok_check_table T).mono (by decide)) hr rfl T.g_check_table T.F_check_table.kp T.b_check_table pass0 (da_cons (d_var 0) da_nil)))
  (ds_one (ds_ret (d_ty b_tup (by rfl) T.n_tuple PyProof.Rows.boot_tuple (da_cons (d_lc (own := [("at", 3), ("each", 4)]) rfl sc_ball.nd (di_enum (by rfl) T.n_enumerate (da_cons (d_ix o_ix (d_var 0) (d_var 1)) da_nil)) (blkOk_by (by kernel_rfl)) (fun _ _ _ _ _ => (dg_tup rfl (dgs_cons (dg_name (i := 3) sc_ball.nd rfl (by first | exact Or.inl rfl | exact Or.inr rfl)) (dgs_cons (dg_name (i := 4) sc_ball.nd rfl (by first | exact Or.inl rfl | exact Or.inr rfl)) dgs_nil)))) (fun _ _ _ _ _ => (dts_one (dt_cmp o_le (d_var 4) (d_var 2)))) (fun _ _ _ _ _ => (d_var 3))) da_nil)))))))
/-! check_part -/
theorem sc_check_part : FnScope ["table", "part", "at", "one", "other"] ["table", "part"] (defScope (topS 16)) := ⟨rfl, rfl, rfl, by decide +kernel, rfl, by decide +kernel, by decide +kernel⟩
theorem ok_check_part (T : Tx K mg) : FnOk P w K mg base CX0 2 T.f_check_part T.fd_check_part ["table", "part"] (spD 2 F_check_part) :=
  fn_ok (N := ["table", "part", "at", "one", "other"]) T.F_check_part sc_check_part (by decide) (fun cdv A outer s H E hr => (show DSs _ _ g_check_part from (ds_cons (ds_if (PW.pt (dw_or (dt_not (dt_tr (d_isi (by rfl) T.n_isinstance (by rfl) T.n_tuple PyProof.Rows.boot_tuple (d_var 1)))) (dw_or (dt_not (dt_tr (d_var 1))) (dw_or1 (dt_tr (d_bi (b_any rfl) (by rfl) T.n_any boot_any (da_cons (d_lc (own := [("at", 2)]) rfl sc_check_part.nd (di_seq (d_var 1)) (blkOk_by (by kernel_rfl)) (fun _ _ _ _ _ => (dg_name (i := 2) sc_check_part.nd rfl (by first | exact Or.inl rfl | exact Or.inr rfl))) (fun _ _ _ _ _ => dts_nil) (fun _ _ _ _ _ => (d_or (d_not (d_fn (n := 1) ((ok_is_integer T).mono (by decide)) hr rfl T.g_is_integer T.F_is_integer.kp T.b_is_integer pass0 (da_cons (d_var 2) da_nil))) (d_one (d_not (d_chain o_le o_lt d_int (d_var 2) (d_bi b_len (by rfl) T.n_len PySem.boot_len (da_cons (d_var 0) da_nil)))))))) da_nil))))))) (ds_one ds_no) ds_nil)
  (ds_one (ds_if (dt_tr (d_bi (b_any rfl) (by rfl) T.n_any boot_any (da_cons (d_lc (own := [("one", 3), ("other", 4)]) rfl sc_check_part.nd (di_zip (by rfl) T.n_zip (da_cons (d_var 1) (da_cons (d_sl (d_var 1) (do_some d_int) do_none) da_nil))) (blkOk_by (by kernel_rfl)) (fun _ _ _ _ _ => (dg_tup rfl (dgs_cons (dg_name (i := 3) sc_check_part.nd rfl (by first | exact Or.inl rfl | exact Or.inr rfl)) (dgs_cons (dg_name (i := 4) sc_check_part.nd rfl (by first | exact Or.inl rfl | exact Or.inr rfl)) dgs_nil)))) (fun _ _ _ _ _ => dts_nil) (fun _ _ _ _ _ => (d_cmp o_ge (d_var 3) (d_var 4)))) da_nil))) (ds_one ds_no) ds_nil)))))
/-! reach -/
theorem sc_reach : FnScope ["table", "part", "other", "at", "to"] ["table", "part", "other"] (defScope (topS 17)) := ⟨rfl, rfl, rfl, by decide +kernel, rfl, by decide +kernel, by decide +kernel⟩
theorem ok_reach (T : Tx K mg) : FnOk P w K mg base CX0 1 T.f_reach T.fd_reach ["table", "part", "other"] (spD 3 F_reach) :=
  fn_ok (N := ["table", "part", "other", "at", "to"]) T.F_reach sc_reach (by decide) (fun cdv A outer s H E hr => (show DSs _ _ g_reach from (ds_one (ds_ret (d_bi (b_maxS rfl) (by rfl) T.n_max boot_max (da_cons (d_lc (own := [("at", 3)]) rfl sc_reach.nd (di_seq (d_var 1)) (blkOk_by (by kernel_rfl)) (fun _ _ _ _ _ => (dg_name (i := 3) sc_reach.nd rfl (by first | exact Or.inl rfl | exact Or.inr rfl))) (fun _ _ _ _ _ => dts_nil) (fun _ _ _ _ _ => (d_bi (b_minS rfl) (by rfl) T.n_min boot_min (da_cons (d_lc (own := [("to", 4)]) rfl sc_reach.nd (di_seq (d_var 2)) (blkOk_by (by kernel_rfl)) (fun _ _ _ _ _ => (dg_name (i := 4) sc_reach.nd rfl (by first | exact Or.inl rfl | exact Or.inr rfl))) (fun _ _ _ _ _ => dts_nil) (fun _ _ _ _ _ => (d_ix o_ix (d_ix o_ix (d_var 0) (d_var 3)) (d_var 4)))) da_nil)))) da_nil))))))
/-! part_distance -/
theorem sc_part_distance : FnScope ["table", "part", "other"] ["table", "part", "other"] (defScope (topS 18)) := ⟨rfl, rfl, rfl, by decide +kernel, rfl, by decide +kernel, by decide +kernel⟩
theorem ok_part_distance (T : Tx K mg) : FnOk P w K mg base CX0 5 T.f_part_distance T.fd_part_distance ["table", "part", "other"] (spD 3 F_part_distance) :=
  fn_ok (N := ["table", "part", "other"]) T.F_part_distance sc_part_distance (by decide) (fun cdv A outer s H E hr => (show DSs _ _ g_part_distance from (ds_cons (ds_exp (d_fn (n := 1) ((ok_check_distances T).mono (by decide)) hr rfl T.g_check_distances T.F_check_distances.kp T.b_check_distances pass0 (da_cons (d_var 0) da_nil)))
  (ds_cons (ds_exp (d_fn (n := 2) ((ok_check_part T).mono (by decide)) hr rfl T.g_check_part T.F_check_part.kp T.b_check_part pass0 (da_cons (d_var 0) (da_cons (d_var 1) da_nil))))
  (ds_cons (ds_exp (d_fn (n := 2) ((ok_check_part T).mono (by decide)) hr rfl T.g_check_part T.F_check_part.kp T.b_check_part pass0 (da_cons (d_var 0) (da_cons (d_var 2) da_nil))))
  (ds_one (ds_ret (d_bi (b_max2 rfl) (by rfl) T.n_max boot_max (da_cons (d_fn (n := 3) ((ok_reach T).mono (by decide)) hr rfl T.g_reach T.F_reach.kp T.b_reach pass0 (da_cons (d_var 0) (da_cons (d_var 1) (da_cons (d_var 2) da_nil)))) (da_cons (d_fn (n := 3) ((ok_reach T).mono (by decide)) hr rfl T.g_reach T.F_reach.kp T.b_reach pass0 (da_cons (d_var 0) (da_cons (d_var 2) (da_cons (d_var 1) da_nil)))) da_nil))))))))))
/-! check_size -/
theorem sc_check_size : FnScope ["size"] ["size"] (defScope (topS 20)) := ⟨rfl, rfl, rfl, by decide +kernel, rfl, by decide +kernel, by decide +kernel⟩
theorem ok_check_size (T : Tx K mg) : FnOk P w K mg base CX0 2 T.f_check_size T.fd_check_size ["size"] (spD 1 F_check_size) :=
  fn_ok (N := ["size"]) T.F_check_size sc_check_size (by decide) (fun cdv A outer s H E hr => (show DSs _ _ g_check_size from (ds_one (ds_if (PW.pt (dw_or (dt_not (dt_tr (d_fn (n := 1) ((ok_is_integer T).mono (by decide)) hr rfl T.g_is_integer T.F_is_integer.kp T.b_is_integer pass0 (da_cons (d_var 0) da_nil)))) (dw_or1 (dt_cmp o_lt (d_var 0) d_int)))) (ds_one ds_no) ds_nil))))
/-! covers -/
theorem sc_covers : FnScope ["table", "size", "many", "part", "at", "center"] ["table", "size"] (defScope (topS 21)) := ⟨rfl, rfl, rfl, by decide +kernel, rfl, by decide +kernel, by decide +kernel⟩
theorem ok_covers (T : Tx K mg) : FnOk P w K mg base CX0 5 T.f_covers T.fd_covers ["table", "size"] (spD 2 F_covers) :=
  fn_ok (N := ["table", "size", "many", "part", "at", "center"]) T.F_covers sc_covers (by decide) (fun cdv A outer s H E hr => (show DSs _ _ g_covers from (ds_cons (ds_exp (d_fn (n := 1) ((ok_check_distances T).mono (by decide)) hr rfl T.g_check_distances T.F_check_distances.kp T.b_check_distances pass0 (da_cons (d_var 0) da_nil)))
  (ds_cons (ds_exp (d_fn (n := 1) ((ok_check_size T).mono (by decide)) hr rfl T.g_check_size T.F_check_size.kp T.b_check_size pass0 (da_cons (d_var 1) da_nil)))
  (ds_cons (ds_for PassesOwn.never rfl (dif_range2 (by rfl) T.n_range (da_cons d_int (da_cons (d_op o_add (d_bi b_len (by rfl) T.n_len PySem.boot_len (da_cons (d_var 0) da_nil)) d_int) da_nil))) (sg_name (i := 2) sc_covers.nd rfl (by first | exact Or.inl rfl | exact Or.inr rfl)) (show DSs _ _ b_covers_4 from (ds_one (ds_forN PassesOwn.never rfl (di_seq (d_fn (n := 2) ((ok_choices T).mono (by decide)) hr rfl T.g_choices T.F_choices.kp T.b_choices pass0 (da_cons (d_bi b_len (by rfl) T.n_len PySem.boot_len (da_cons (d_var 0) da_nil)) (da_cons (d_var 2) da_nil)))) (sg_name (i := 3) sc_covers.nd rfl (by first | exact Or.inl rfl | exact Or.inr rfl)) (show DSs _ _ b_covers_3 from (ds_one (ds_if (dt_tr (d_bi (b_all rfl) (by rfl) T.n_all boot_all (da_cons (d_lc (own := [("at", 4)]) rfl sc_covers.nd (dif (dif_range1 (by rfl) T.n_range (da_cons (d_bi b_len (by rfl) T.n_len PySem.boot_len (da_cons (d_var 0) da_nil)) da_nil))) (blkOk_by (by kernel_rfl)) (fun _ _ _ _ _ => (dg_name (i := 4) sc_covers.nd rfl (by first | exact Or.inl rfl | exact Or.inr rfl))) (fun _ _ _ _ _ => dts_nil) (fun _ _ _ _ _ => (d_bi (b_any rfl) (by rfl) T.n_any boot_any (da_cons (d_lc (own := [("center", 5)]) rfl sc_covers.nd (di_seq (d_var 3)) (blkOk_by (by kernel_rfl)) (fun _ _ _ _ _ => (dg_name (i := 5) sc_covers.nd rfl (by first | exact Or.inl rfl | exact Or.inr rfl))) (fun _ _ _ _ _ => dts_nil) (fun _ _ _ _ _ => (d_cmp o_le (d_ix o_ix (d_ix o_ix (d_var 0) (d_var 4)) (d_var 5)) (d_var 1)))) da_nil)))) da_nil))) (ds_one (ds_ret (d_tup (da_cons (d_var 2) (da_cons (d_var 3) da_nil))))) ds_nil)))))))
  (ds_one (ds_ret d_non)))))))
/-! centers -/
theorem sc_centers : FnScope ["table", "many", "best", "part", "key", "at", "center"] ["table", "many"] (defScope (topS 22)) := ⟨rfl, rfl, rfl, by decide +kernel, rfl, by decide +kernel, by decide +kernel⟩
theorem ok_centers (T : Tx K mg) : FnOk P w K mg base CX0 5 T.f_centers T.fd_centers ["table", "many"] (spD 2 F_centers) :=
  fn_ok (N := ["table", "many", "best", "part", "key", "at", "center"]) T.F_centers sc_centers (by decide) (fun cdv A outer s H E hr => (show DSs _ _ g_centers from (ds_cons (ds_exp (d_fn (n := 1) ((ok_check_distances T).mono (by decide)) hr rfl T.g_check_distances T.F_check_distances.kp T.b_check_distances pass0 (da_cons (d_var 0) da_nil)))
  (ds_cons (ds_if (PW.pt (dw_or (dt_not (dt_tr (d_fn (n := 1) ((ok_is_integer T).mono (by decide)) hr rfl T.g_is_integer T.F_is_integer.kp T.b_is_integer pass0 (da_cons (d_var 1) da_nil)))) (dw_or1 (dt_not (dt_chain o_le o_le d_int (d_var 1) (d_bi b_len (by rfl) T.n_len PySem.boot_len (da_cons (d_var 0) da_nil))))))) (ds_one ds_no) ds_nil)
  (ds_cons (ds_set (i := 2) sc_centers.nd rfl (by first | exact Or.inl rfl | exact Or.inr rfl) d_non)
  (ds_cons (ds_forN PassesOwn.never rfl (di_seq (d_fn (n := 2) ((ok_choices T).mono (by decide)) hr rfl T.g_choices T.F_choices.kp T.b_choices pass0 (da_cons (d_bi b_len (by rfl) T.n_len PySem.boot_len (da_cons (d_var 0) da_nil)) (da_cons (d_var 1) da_nil)))) (sg_name (i := 3) sc_centers.nd rfl (by first | exact Or.inl rfl | exact Or.inr rfl)) (show DSs _ _ b_centers_3 from (ds_cons (ds_set (i := 4) sc_centers.nd rfl (by first | exact Or.inl rfl | exact Or.inr rfl) (d_tup (da_cons (d_bi (b_maxS rfl) (by rfl) T.n_max boot_max (da_cons (d_lc (own := [("at", 5)]) rfl sc_centers.nd (dif (dif_range1 (by rfl) T.n_range (da_cons (d_bi b_len (by rfl) T.n_len PySem.boot_len (da_cons (d_var 0) da_nil)) da_nil))) (blkOk_by (by kernel_rfl)) (fun _ _ _ _ _ => (dg_name (i := 5) sc_centers.nd rfl (by first | exact Or.inl rfl | exact Or.inr rfl))) (fun _ _ _ _ _ => dts_nil) (fun _ _ _ _ _ => (d_bi (b_minS rfl) (by rfl) T.n_min boot_min (da_cons (d_lc (own := [("center", 6)]) rfl sc_centers.nd (di_seq (d_var 3)) (blkOk_by (by kernel_rfl)) (fun _ _ _ _ _ => (dg_name (i := 6) sc_centers.nd rfl (by first | exact Or.inl rfl | exact Or.inr rfl))) (fun _ _ _ _ _ => dts_nil) (fun _ _ _ _ _ => (d_ix o_ix (d_ix o_ix (d_var 0) (d_var 5)) (d_var 6)))) da_nil)))) da_nil)) (da_cons (d_var 3) da_nil))))
  (ds_one (ds_set (i := 2) sc_centers.nd rfl (by first | exact Or.inl rfl | exact Or.inr rfl) (d_if (PW.pt (dw_or (dt_cmp o_is (d_var 2) d_non) (dw_or1 (dt_cmp (o_ltD hr.units) (d_var 4) (d_var 2))))) (d_var 4) (d_var 2)))))))
  (ds_one (ds_ret (d_var 2)))))))))
/-! spread_out -/
theorem sc_spread_out : FnScope ["table", "many", "row", "gaps", "at", "center"] ["table", "many"] (defScope (topS 23)) := ⟨rfl, rfl, rfl, by decide +kernel, rfl, by decide +kernel, by decide +kernel⟩
theorem ok_spread_out (T : Tx K mg) : FnOk P w K mg base CX0 5 T.f_spread_out T.fd_spread_out ["table", "many"] (spD 2 F_spread_out) :=
  fn_ok (N := ["table", "many", "row", "gaps", "at", "center"]) T.F_spread_out sc_spread_out (by decide) (fun cdv A outer s H E hr => (show DSs _ _ g_spread_out from (ds_cons (ds_exp (d_fn (n := 1) ((ok_check_distances T).mono (by decide)) hr rfl T.g_check_distances T.F_check_distances.kp T.b_check_distances pass0 (da_cons (d_var 0) da_nil)))
  (ds_cons (ds_if (PW.pt (dw_or (dt_not (dt_tr (d_fn (n := 1) ((ok_is_integer T).mono (by decide)) hr rfl T.g_is_integer T.F_is_integer.kp T.b_is_integer pass0 (da_cons (d_var 1) da_nil)))) (dw_or1 (dt_not (dt_chain o_le o_le d_int (d_var 1) (d_bi b_len (by rfl) T.n_len PySem.boot_len (da_cons (d_var 0) da_nil))))))) (ds_one ds_no) ds_nil)
  (ds_cons (ds_own (i := 2) sc_spread_out.nd rfl (by first | exact Or.inl rfl | exact Or.inr rfl) (df_lst (daf_cons (df_lf d_int) daf_nil)))
  (ds_cons (ds_while 1000000 PassesOwn.never (show DT _ _ t_spread_out_4 from (dt_cmp o_lt (d_bi b_len (by rfl) T.n_len PySem.boot_len (da_cons (d_var 2) da_nil)) (d_var 1))) (show DSs _ _ b_spread_out_3 from (ds_cons (ds_setLc (i := 3) (own := [("at", 4)]) rfl sc_spread_out.nd rfl rfl (sw_true rfl rfl rfl (by kernel_rfl)) (dif (dif_range1 (by rfl) T.n_range (da_cons (d_bi b_len (by rfl) T.n_len PySem.boot_len (da_cons (d_var 0) da_nil)) da_nil))) (blkOk_by (by kernel_rfl)) (fun _ _ _ _ _ => (dg_name (i := 4) sc_spread_out.nd rfl (by first | exact Or.inl rfl | exact Or.inr rfl))) (fun _ _ _ _ _ => dts_nil) (fun _ _ _ _ _ => (df_lf (d_bi (b_minS rfl) (by rfl) T.n_min boot_min (da_cons (d_lc (own := [("center", 5)]) rfl sc_spread_out.nd (di_seq (d_var 2)) (blkOk_by (by kernel_rfl)) (fun _ _ _ _ _ => (dg_name (i := 5) sc_spread_out.nd rfl (by first | exact Or.inl rfl | exact Or.inr rfl))) (fun _ _ _ _ _ => dts_nil) (fun _ _ _ _ _ => (d_ix o_ix (d_ix o_ix (d_var 0) (d_var 4)) (d_var 5)))) da_nil)))))
  (ds_one (ds_app (i := 2) rfl (by first | exact Or.inl rfl | exact Or.inr (Or.inl rfl)) (d_index (d_var 3) (d_bi (b_maxS rfl) (by rfl) T.n_max boot_max (da_cons (d_var 3) da_nil))))))))
  (ds_one (ds_ret (d_tup (da_cons (d_ty b_tup (by rfl) T.n_tuple PyProof.Rows.boot_tuple (da_cons (d_var 2) da_nil)) (da_cons (d_bi (b_maxS rfl) (by rfl) T.n_max boot_max (da_cons (d_lc (own := [("at", 4)]) rfl sc_spread_out.nd (dif (dif_range1 (by rfl) T.n_range (da_cons (d_bi b_len (by rfl) T.n_len PySem.boot_len (da_cons (d_var 0) da_nil)) da_nil))) (blkOk_by (by kernel_rfl)) (fun _ _ _ _ _ => (dg_name (i := 4) sc_spread_out.nd rfl (by first | exact Or.inl rfl | exact Or.inr rfl))) (fun _ _ _ _ _ => dts_nil) (fun _ _ _ _ _ => (d_bi (b_minS rfl) (by rfl) T.n_min boot_min (da_cons (d_lc (own := [("center", 5)]) rfl sc_spread_out.nd (di_seq (d_var 2)) (blkOk_by (by kernel_rfl)) (fun _ _ _ _ _ => (dg_name (i := 5) sc_spread_out.nd rfl (by first | exact Or.inl rfl | exact Or.inr rfl))) (fun _ _ _ _ _ => dts_nil) (fun _ _ _ _ _ => (d_ix o_ix (d_ix o_ix (d_var 0) (d_var 4)) (d_var 5)))) da_nil)))) da_nil)) da_nil)))))))))))
/-! is_net -/
theorem sc_is_net : FnScope ["table", "part", "size", "a", "b", "at", "center"] ["table", "part", "size"] (defScope (topS 24)) := ⟨rfl, rfl, rfl, by decide +kernel, rfl, by decide +kernel, by decide +kernel⟩
theorem ok_is_net (T : Tx K mg) : FnOk P w K mg base CX0 5 T.f_is_net T.fd_is_net ["table", "part", "size"] (spD 3 F_is_net) :=
  fn_ok (N := ["table", "part", "size", "a", "b", "at", "center"]) T.F_is_net sc_is_net (by decide) (fun cdv A outer s H E hr => (show DSs _ _ g_is_net from (ds_cons (ds_exp (d_fn (n := 1) ((ok_check_distances T).mono (by decide)) hr rfl T.g_check_distances T.F_check_distances.kp T.b_check_distances pass0 (da_cons (d_var 0) da_nil)))
  (ds_cons (ds_exp (d_fn (n := 1) ((ok_check_size T).mono (by decide)) hr rfl T.g_check_size T.F_check_size.kp T.b_check_size pass0 (da_cons (d_var 2) da_nil)))
  (ds_cons (ds_if (dt_tr (d_bi (b_any rfl) (by rfl) T.n_any boot_any (da_cons (d_lc2 (own := [("a", 3), ("b", 4)]) rfl sc_is_net.nd (di_seq (d_var 1)) (blkOk_by (by kernel_rfl)) (by decide) (fun _ _ _ _ _ => (dg_sub (vs := [3]) (by decide) (dg_name (i := 3) sc_is_net.nd rfl (by first | exact Or.inl rfl | exact Or.inr rfl)))) (fun _ _ _ _ _ => dts_nil) (fun _ _ _ _ _ => (di_seq (d_var 1))) (fun _ _ _ _ _ => (dg_name (i := 4) sc_is_net.nd rfl (by first | exact Or.inl rfl | exact Or.inr rfl))) (fun _ _ _ _ _ => (dts_one (dt_cmp o_lt (d_var 3) (d_var 4)))) (fun _ _ _ _ _ => (d_cmp o_le (d_ix o_ix (d_ix o_ix (d_var 0) (d_var 3)) (d_var 4)) (d_var 2)))) da_nil))) (ds_one (ds_ret d_bl)) ds_nil)
  (ds_one (ds_ret (d_bi (b_all rfl) (by rfl) T.n_all boot_all (da_cons (d_lc (own := [("at", 5)]) rfl sc_is_net.nd (dif (dif_range1 (by rfl) T.n_range (da_cons (d_bi b_len (by rfl) T.n_len PySem.boot_len (da_cons (d_var 0) da_nil)) da_nil))) (blkOk_by (by kernel_rfl)) (fun _ _ _ _ _ => (dg_name (i := 5) sc_is_net.nd rfl (by first | exact Or.inl rfl | exact Or.inr rfl))) (fun _ _ _ _ _ => dts_nil) (fun _ _ _ _ _ => (d_bi (b_any rfl) (by rfl) T.n_any boot_any (da_cons (d_lc (own := [("center", 6)]) rfl sc_is_net.nd (di_seq (d_var 1)) (blkOk_by (by kernel_rfl)) (fun _ _ _ _ _ => (dg_name (i := 6) sc_is_net.nd rfl (by first | exact Or.inl rfl | exact Or.inr rfl))) (fun _ _ _ _ _ => dts_nil) (fun _ _ _ _ _ => (d_cmp o_le (d_ix o_ix (d_ix o_ix (d_var 0) (d_var 5)) (d_var 6)) (d_var 2)))) da_nil)))) da_nil)))))))))
/-! net -/
theorem sc_net : FnScope ["table", "size", "found", "at", "center"] ["table", "size"] (defScope (topS 25)) := ⟨rfl, rfl, rfl, by decide +kernel, rfl, by decide +kernel, by decide +kernel⟩
theorem ok_net (T : Tx K mg) : FnOk P w K mg base CX0 5 T.f_net T.fd_net ["table", "size"] (spD 2 F_net) :=
  fn_ok (N := ["table", "size", "found", "at", "center"]) T.F_net sc_net (by decide) (fun cdv A outer s H E hr => (show DSs _ _ g_net from (ds_cons (ds_exp (d_fn (n := 1) ((ok_check_distances T).mono (by decide)) hr rfl T.g_check_distances T.F_check_distances.kp T.b_check_distances pass0 (da_cons (d_var 0) da_nil)))
  (ds_cons (ds_exp (d_fn (n := 1) ((ok_check_size T).mono (by decide)) hr rfl T.g_check_size T.F_check_size.kp T.b_check_size pass0 (da_cons (d_var 1) da_nil)))
  (ds_cons (ds_own (i := 2) sc_net.nd rfl (by first | exact Or.inl rfl | exact Or.inr rfl) (df_lst daf_nil))
  (ds_cons (ds_for PassesOwn.never rfl (dif_range1 (by rfl) T.n_range (da_cons (d_bi b_len (by rfl) T.n_len PySem.boot_len (da_cons (d_var 0) da_nil)) da_nil)) (sg_name (i := 3) sc_net.nd rfl (by first | exact Or.inl rfl | exact Or.inr rfl)) (show DSs _ _ b_net_2 from (ds_one (ds_if (dt_tr (d_bi (b_all rfl) (by rfl) T.n_all boot_all (da_cons (d_lc (own := [("center", 4)]) rfl sc_net.nd (di_seq (d_var 2)) (blkOk_by (by kernel_rfl)) (fun _ _ _ _ _ => (dg_name (i := 4) sc_net.nd rfl (by first | exact Or.inl rfl | exact Or.inr rfl))) (fun _ _ _ _ _ => dts_nil) (fun _ _ _ _ _ => (d_cmp o_gt (d_ix o_ix (d_ix o_ix (d_var 0) (d_var 3)) (d_var 4)) (d_var 1)))) da_nil))) (ds_one (ds_app (i := 2) rfl (by first | exact Or.inl rfl | exact Or.inr (Or.inl rfl)) (d_var 3))) ds_nil))))
  (ds_one (ds_ret (d_ty b_tup (by rfl) T.n_tuple PyProof.Rows.boot_tuple (da_cons (d_var 2) da_nil))))))))))
theorem sc__law_take : FnScope ["d", "many", "small", "digit"] ["d", "many"] (defScope (topS 28)) := ⟨rfl, rfl, rfl, by decide +kernel, rfl, by decide +kernel, by decide +kernel⟩
theorem ok__law_take (T : Tx K mg) : FnOk P w K mg base CX0 1 T.f__law_take T.fd__law_take ["d", "many"] (spD 2 F__law_take) := by
  refine T.F__law_take.ok sc__law_take (fun vs H Q E ⟨S, ds, L, st, d, st', r, hl, _⟩ => r.len.trans hl) (fun cdv A outer s H vs Q E hr h => ?_)
  obtain ⟨S, ds, L, st, d, st', r, hl, so, e, q⟩ := h
  match ds, hl with
  | [x, y], _ =>
  cases x with
  | src =>
    cases y with
    | int m =>
      obtain ⟨v, u, L1, L2', rfl, r1, r2⟩ := r.i2
      cases r1
      obtain ⟨rfl, rfl⟩ := r2.iint
      have e : (if 0 < m ∧ m ≤ 1000000 then some (D.int (take st m).1, (take st m).2) else none) = some (d, st') := e
      by_cases hm : 0 < m ∧ m ≤ 1000000
      · rw [if_pos hm] at e
        have e' := Option.some.inj e
        have ed : D.int (take st m).1 = d := congrArg Prod.fst e'
        have es : (take st m).2 = st' := congrArg Prod.snd e'
        clear e e'
        subst ed es
        have sl := sc__law_take.nd
        refine ⟨_, pss_cons (ps_if (PW.pt (pw_and (pt_cmpR op_eq (pe_ix ix_list (pv 0) pe_int (fun _ _ => rfl)) pe_int (nomark _)) (pw_and1 (pt_cmpR op_lt (pe_ix ix_list (pv 0) pe_int (fun _ _ => rfl)) (pe_callB call_len_seq (by rfl) T.n_len PySem.boot_len (pa_cons (pe_ix ix_list (pv 0) pe_int (fun _ _ => rfl)) pa_nil)) (nomark _)))))
            (pss_cons (ps_asg (pe_callB call_abs (by rfl) T.n_abs boot_abs (pa_cons (pe_callTy call_int1 (by rfl) T.n_int PyProof.Rows.boot_int (pa_cons (pe_ix ix_list (pe_ix ix_list (pv 0) pe_int (fun _ _ => rfl)) (pe_ix ix_list (pv 0) pe_int (fun _ _ => rfl)) (fun _ _ => rfl)) pa_nil)) pa_nil)) (pg_sub (pv 0) pe_int set_list))
            (pss_cons (ps_asg (pe_op op_add (pe_ix ix_list (pv 0) pe_int (fun _ _ => rfl)) pe_int) (pg_sub (pv 0) pe_int set_list))
            (pss_one (ps_if (pt_cmpR op_lt (pe_ix ix_list (pv 0) pe_int (fun _ _ => rfl)) (pe_op op_pow pe_int pe_int) (nomark _))
              (pss_cons (ps_set (i := 2) sl rfl (Or.inl rfl) (pe_callTy call_int1 (by rfl) T.n_int PyProof.Rows.boot_int (pa_cons (pe_ix ix_list (pv 0) pe_int (fun _ _ => rfl)) pa_nil)))
              (pss_cons (ps_asg pe_int (pg_sub (pv 0) pe_int set_list))
              (pss_one (ps_ret (pe_op op_mod (pv 2) (pv 1))))))
              pss_nil)))) pss_nil)
          (pss_cons (ps_if (pt_cmpR op_gt (pe_ix ix_list (pv 0) pe_int (fun _ _ => rfl)) pe_int (nomark _))
            (pss_cons (ps_set (i := 3) sl rfl (Or.inl rfl) (pe_op op_mod (pe_callTy call_int1 (by rfl) T.n_int PyProof.Rows.boot_int (pa_cons (pe_ix ix_list (pv 0) pe_int (fun _ _ => rfl)) pa_nil)) (pv 1)))
            (pss_cons (ps_asg (pe_op op_fdivW (pe_callTy call_int1 (by rfl) T.n_int PyProof.Rows.boot_int (pa_cons (pe_ix ix_list (pv 0) pe_int (fun _ _ => rfl)) pa_nil)) (pv 1)) (pg_sub (pv 0) pe_int set_list))
            (pss_one (ps_ret (pv 3))))) pss_nil)
          (pss_cons (ps_asg (pe_op op_mod (pe_callTy call_int1 (by rfl) T.n_int PyProof.Rows.boot_int (pa_cons (pe_op op_add (pe_op op_mul (pe_ix ix_list (pv 0) pe_int (fun _ _ => rfl)) pe_int) pe_int) pa_nil)) pe_int) (pg_sub (pv 0) pe_int set_list))
          (pss_one (ps_ret (pe_op op_mod (pe_callTy call_int1 (by rfl) T.n_int PyProof.Rows.boot_int (pa_cons (pe_op op_fdiv (pe_ix ix_list (pv 0) pe_int (fun _ _ => rfl)) pe_int) pa_nil)) (pv 1)))))), ?_⟩
        exact take_reads so hm q
      · rw [if_neg hm] at e; cases e
    | _ => cases e
  | _ => cases y <;> cases e

/-! _law_shuffled -/
theorem sc__law_shuffled : FnScope ["d", "n", "rest", "k"] ["d", "n"] (defScope (topS 29)) := ⟨rfl, rfl, rfl, by decide +kernel, rfl, by decide +kernel, by decide +kernel⟩
theorem ok__law_shuffled (T : Tx K mg) : FnOk P w K mg base CX0 2 T.f__law_shuffled T.fd__law_shuffled ["d", "n"] (spD 2 F__law_shuffled) :=
  fn_ok (N := ["d", "n", "rest", "k"]) T.F__law_shuffled sc__law_shuffled (by decide) (fun cdv A outer s H E hr => (show DSs _ _ g__law_shuffled from (ds_cons (ds_own (i := 2) sc__law_shuffled.nd rfl (by first | exact Or.inl rfl | exact Or.inr rfl) (df_lstR1 rfl (by rfl) T.n_list (by rfl) T.n_range (d_var 1)))
  (ds_one (ds_shuf rfl sc__law_shuffled.nd (dif_range1 (by rfl) T.n_range (da_cons (d_var 1) da_nil)) (blkOk_by (by kernel_rfl)) (fun _ _ _ _ _ => (dg_name (i := 3) sc__law_shuffled.nd rfl (by first | exact Or.inl rfl | exact Or.inr rfl))) (fun _ _ _ _ _ => pe_bm PySem.F.plainAttrs_list PySem.F.slot_list_pop PySem.F.type_list_pop mt_popAt (pv 2) (da_cons (d_fn (n := 2) ((ok__law_take T).mono (by decide)) hr rfl T.g__law_take T.F__law_take.kp T.b__law_take pass0 (da_cons (d_var 0) (da_cons (d_bi b_len (by rfl) T.n_len PySem.boot_len (da_cons (d_var 2) da_nil)) da_nil))) da_nil)) (by rfl) T.n_tuple)))))
/-! _law_tree -/
theorem sc__law_tree : FnScope ["d", "n", "more", "top", "joints", "names", "edges", "k", "a"] ["d", "n", "more", "top"] (defScope (topS 30)) := ⟨rfl, rfl, rfl, by decide +kernel, rfl, by decide +kernel, by decide +kernel⟩
theorem ok__law_tree (T : Tx K mg) : FnOk P w K mg base CX0 3 T.f__law_tree T.fd__law_tree ["d", "n", "more", "top"] (spD 4 F__law_tree) :=
  fn_ok (N := ["d", "n", "more", "top", "joints", "names", "edges", "k", "a"]) T.F__law_tree sc__law_tree (by decide) (fun cdv A outer s H E hr => (show DSs _ _ g__law_tree from (ds_cons (ds_set (i := 4) sc__law_tree.nd rfl (by first | exact Or.inl rfl | exact Or.inr rfl) (d_op o_add (d_var 1) (d_fn (n := 2) ((ok__law_take T).mono (by decide)) hr rfl T.g__law_take T.F__law_take.kp T.b__law_take pass0 (da_cons (d_var 0) (da_cons (d_op o_add (d_var 2) d_int) da_nil)))))
  (ds_cons (ds_set (i := 5) sc__law_tree.nd rfl (by first | exact Or.inl rfl | exact Or.inr rfl) (d_fn (n := 2) ((ok__law_shuffled T).mono (by decide)) hr rfl T.g__law_shuffled T.F__law_shuffled.kp T.b__law_shuffled pass0 (da_cons (d_var 0) (da_cons (d_var 4) da_nil))))
  (ds_cons (ds_own (i := 6) sc__law_tree.nd rfl (by first | exact Or.inl rfl | exact Or.inr rfl) (df_lst daf_nil))
  (ds_cons (ds_for PassesOwn.never rfl (dif_range2 (by rfl) T.n_range (da_cons d_int (da_cons (d_var 4) da_nil))) (sg_name (i := 7) sc__law_tree.nd rfl (by first | exact Or.inl rfl | exact Or.inr rfl)) (show DSs _ _ b__law_tree_1 from (ds_cons (ds_set (i := 8) sc__law_tree.nd rfl (by first | exact Or.inl rfl | exact Or.inr rfl) (d_ix o_ix (d_var 5) (d_fn (n := 2) ((ok__law_take T).mono (by decide)) hr rfl T.g__law_take T.F__law_take.kp T.b__law_take pass0 (da_cons (d_var 0) (da_cons (d_var 7) da_nil)))))
  (ds_one (ds_app (i := 6) rfl (by first | exact Or.inl rfl | exact Or.inr (Or.inl rfl)) (d_tup (da_cons (d_bi (b_min2 rfl) (by rfl) T.n_min boot_min (da_cons (d_var 8) (da_cons (d_ix o_ix (d_var 5) (d_var 7)) da_nil))) (da_cons (d_bi (b_max2 rfl) (by rfl) T.n_max boot_max (da_cons (d_var 8) (da_cons (d_ix o_ix (d_var 5) (d_var 7)) da_nil))) (da_cons (d_op o_add d_int (d_fn (n := 2) ((ok__law_take T).mono (by decide)) hr rfl T.g__law_take T.F__law_take.kp T.b__law_take pass0 (da_cons (d_var 0) (da_cons (d_var 3) da_nil)))) da_nil)))))))))
  (ds_one (ds_ret (d_lst (da_cons (d_var 4) (da_cons (d_ty b_tup (by rfl) T.n_tuple PyProof.Rows.boot_tuple (da_cons (d_bi (b_sorted rfl) (by rfl) T.n_sorted PyProof.Rows.boot_sorted (da_cons (d_var 6) da_nil)) da_nil)) da_nil)))))))))))
/-! _law_along -/
theorem sc__law_along : FnScope ["joints", "edges", "far", "i", "turn", "a", "b", "size", "j"] ["joints", "edges"] (defScope (topS 31)) := ⟨rfl, rfl, rfl, by decide +kernel, rfl, by decide +kernel, by decide +kernel⟩
theorem ok__law_along (T : Tx K mg) : FnOk P w K mg base CX0 1 T.f__law_along T.fd__law_along ["joints", "edges"] (spD 2 F__law_along) :=
  fn_ok (N := ["joints", "edges", "far", "i", "turn", "a", "b", "size", "j"]) T.F__law_along sc__law_along (by decide) (fun cdv A outer s H E hr => (show DSs _ _ g__law_along from (ds_cons (ds_setLc (i := 2) (own := [("i", 3)]) rfl sc__law_along.nd rfl rfl (sw_true rfl rfl rfl (by kernel_rfl)) (dif (dif_range1 (by rfl) T.n_range (da_cons (d_var 0) da_nil))) (blkOk_by (by kernel_rfl)) (fun _ _ _ _ _ => (dg_name (i := 3) sc__law_along.nd rfl (by first | exact Or.inl rfl | exact Or.inr rfl))) (fun _ _ _ _ _ => dts_nil) (fun _ _ _ _ _ => (df_lc (own := [("j", 8)]) rfl sc__law_along.nd (dif (dif_range1 (by rfl) T.n_range (da_cons (d_var 0) da_nil))) (blkOk_by (by kernel_rfl)) (fun _ _ _ _ _ => (dg_name (i := 8) sc__law_along.nd rfl (by first | exact Or.inl rfl | exact Or.inr rfl))) (fun _ _ _ _ _ => dts_nil) (fun _ _ _ _ _ => (df_lf (d_if (dt_cmp (o_eq hr.units) (d_var 3) (d_var 8)) d_int d_non))))))
  (ds_cons (ds_for PassesOwn.never rfl (dif_range1 (by rfl) T.n_range (da_cons (d_var 0) da_nil)) (sg_name (i := 3) sc__law_along.nd rfl (by first | exact Or.inl rfl | exact Or.inr rfl)) (show DSs _ _ b__law_along_5 from (ds_one (ds_for PassesOwn.never rfl (dif_range1 (by rfl) T.n_range (da_cons (d_var 0) da_nil)) (sg_name (i := 4) sc__law_along.nd rfl (by first | exact Or.inl rfl | exact Or.inr rfl)) (show DSs _ _ b__law_along_4 from (ds_one (ds_for PassesOwn.never rfl (dif_seq (d_var 1)) (sg_tup rfl (sgs_cons (sg_name (i := 5) sc__law_along.nd rfl (by first | exact Or.inl rfl | exact Or.inr rfl)) (sgs_cons (sg_name (i := 6) sc__law_along.nd rfl (by first | exact Or.inl rfl | exact Or.inr rfl)) (sgs_cons (sg_name (i := 7) sc__law_along.nd rfl (by first | exact Or.inl rfl | exact Or.inr rfl)) sgs_nil)))) (show DSs _ _ b__law_along_3 from (ds_cons (ds_if (PW.pt (dw_and (dt_cmp o_isN (d_ix o_ix (d_ix o_ix (d_var 2) (d_var 3)) (d_var 5)) d_non) (dw_and1 (dt_cmp o_is (d_ix o_ix (d_ix o_ix (d_var 2) (d_var 3)) (d_var 6)) d_non)))) (ds_one (ds_sub2 (i := 2) rfl (by first | exact Or.inl rfl | exact Or.inr (Or.inl rfl)) (d_var 3) (d_var 6) (d_op o_add (d_ix o_ix (d_ix o_ix (d_var 2) (d_var 3)) (d_var 5)) (d_var 7)))) ds_nil)
  (ds_one (ds_if (PW.pt (dw_and (dt_cmp o_isN (d_ix o_ix (d_ix o_ix (d_var 2) (d_var 3)) (d_var 6)) d_non) (dw_and1 (dt_cmp o_is (d_ix o_ix (d_ix o_ix (d_var 2) (d_var 3)) (d_var 5)) d_non)))) (ds_one (ds_sub2 (i := 2) rfl (by first | exact Or.inl rfl | exact Or.inr (Or.inl rfl)) (d_var 3) (d_var 5) (d_op o_add (d_ix o_ix (d_ix o_ix (d_var 2) (d_var 3)) (d_var 6)) (d_var 7)))) ds_nil)))))))))))
  (ds_one (ds_ret (d_var 2)))))))
/-! _law_table -/
theorem sc__law_table : FnScope ["d", "n", "top", "rows", "i", "j", "k", "row"] ["d", "n", "top"] (defScope (topS 32)) := ⟨rfl, rfl, rfl, by decide +kernel, rfl, by decide +kernel, by decide +kernel⟩
theorem ok__law_table (T : Tx K mg) : FnOk P w K mg base CX0 2 T.f__law_table T.fd__law_table ["d", "n", "top"] (spD 3 F__law_table) :=
  fn_ok (N := ["d", "n", "top", "rows", "i", "j", "k", "row"]) T.F__law_table sc__law_table (by decide) (fun cdv A outer s H E hr => (show DSs _ _ g__law_table from (ds_cons (ds_setLc (i := 3) (own := [("k", 6)]) rfl sc__law_table.nd rfl rfl (sw_true rfl rfl rfl (by kernel_rfl)) (dif (dif_range1 (by rfl) T.n_range (da_cons (d_var 1) da_nil))) (blkOk_by (by kernel_rfl)) (fun _ _ _ _ _ => (dg_name (i := 6) sc__law_table.nd rfl (by first | exact Or.inl rfl | exact Or.inr rfl))) (fun _ _ _ _ _ => dts_nil) (fun _ _ _ _ _ => (df_rep (d_lst (da_cons d_int da_nil)) (d_var 1))))
  (ds_cons (ds_for PassesOwn.never rfl (dif_range1 (by rfl) T.n_range (da_cons (d_var 1) da_nil)) (sg_name (i := 4) sc__law_table.nd rfl (by first | exact Or.inl rfl | exact Or.inr rfl)) (show DSs _ _ b__law_table_3 from (ds_one (ds_for PassesOwn.never rfl (dif_range1 (by rfl) T.n_range (da_cons (d_var 4) da_nil)) (sg_name (i := 5) sc__law_table.nd rfl (by first | exact Or.inl rfl | exact Or.inr rfl)) (show DSs _ _ b__law_table_2 from (ds_cons (ds_sub2 (i := 3) rfl (by first | exact Or.inl rfl | exact Or.inr (Or.inl rfl)) (d_var 4) (d_var 5) (d_op o_add d_int (d_fn (n := 2) ((ok__law_take T).mono (by decide)) hr rfl T.g__law_take T.F__law_take.kp T.b__law_take pass0 (da_cons (d_var 0) (da_cons (d_var 2) da_nil)))))
  (ds_one (ds_sub2 (i := 3) rfl (by first | exact Or.inl rfl | exact Or.inr (Or.inl rfl)) (d_var 5) (d_var 4) (d_ix o_ix (d_ix o_ix (d_var 3) (d_var 4)) (d_var 5))))))))))
  (ds_one (ds_ret (d_ty b_tup (by rfl) T.n_tuple PyProof.Rows.boot_tuple (da_cons (d_lc (own := [("row", 7)]) rfl sc__law_table.nd (di_seq (d_var 3)) (blkOk_by (by kernel_rfl)) (fun _ _ _ _ _ => (dg_name (i := 7) sc__law_table.nd rfl (by first | exact Or.inl rfl | exact Or.inr rfl))) (fun _ _ _ _ _ => dts_nil) (fun _ _ _ _ _ => (d_ty b_tup (by rfl) T.n_tuple PyProof.Rows.boot_tuple (da_cons (d_var 7) da_nil)))) da_nil))))))))
/-! _law_short -/
theorem sc__law_short : FnScope ["table", "n", "rows", "k", "i", "j", "row"] ["table"] (defScope (topS 33)) := ⟨rfl, rfl, rfl, by decide +kernel, rfl, by decide +kernel, by decide +kernel⟩
theorem ok__law_short (T : Tx K mg) : FnOk P w K mg base CX0 1 T.f__law_short T.fd__law_short ["table"] (spD 1 F__law_short) :=
  fn_ok (N := ["table", "n", "rows", "k", "i", "j", "row"]) T.F__law_short sc__law_short (by decide) (fun cdv A outer s H E hr => (show DSs _ _ g__law_short from (ds_cons (ds_set (i := 1) sc__law_short.nd rfl (by first | exact Or.inl rfl | exact Or.inr rfl) (d_bi b_len (by rfl) T.n_len PySem.boot_len (da_cons (d_var 0) da_nil)))
  (ds_cons (ds_setLc (i := 2) (own := [("row", 6)]) rfl sc__law_short.nd rfl rfl (sw_true rfl rfl rfl (by kernel_rfl)) (di_seq (d_var 0)) (blkOk_by (by kernel_rfl)) (fun _ _ _ _ _ => (dg_name (i := 6) sc__law_short.nd rfl (by first | exact Or.inl rfl | exact Or.inr rfl))) (fun _ _ _ _ _ => dts_nil) (fun _ _ _ _ _ => (df_list (by rfl) T.n_list PyProof.Rows.boot_list (da_cons (d_var 6) da_nil))))
  (ds_cons (ds_for PassesOwn.never rfl (dif_range1 (by rfl) T.n_range (da_cons (d_var 1) da_nil)) (sg_name (i := 3) sc__law_short.nd rfl (by first | exact Or.inl rfl | exact Or.inr rfl)) (show DSs _ _ b__law_short_4 from (ds_one (ds_for PassesOwn.never rfl (dif_range1 (by rfl) T.n_range (da_cons (d_var 1) da_nil)) (sg_name (i := 4) sc__law_short.nd rfl (by first | exact Or.inl rfl | exact Or.inr rfl)) (show DSs _ _ b__law_short_3 from (ds_one (ds_for PassesOwn.never rfl (dif_range1 (by rfl) T.n_range (da_cons (d_var 1) da_nil)) (sg_name (i := 5) sc__law_short.nd rfl (by first | exact Or.inl rfl | exact Or.inr rfl)) (show DSs _ _ b__law_short_2 from (ds_one (ds_sub2 (i := 2) rfl (by first | exact Or.inl rfl | exact Or.inr (Or.inl rfl)) (d_var 4) (d_var 5) (d_bi (b_min2 rfl) (by rfl) T.n_min boot_min (da_cons (d_ix o_ix (d_ix o_ix (d_var 2) (d_var 4)) (d_var 5)) (da_cons (d_op o_add (d_ix o_ix (d_ix o_ix (d_var 2) (d_var 4)) (d_var 3)) (d_ix o_ix (d_ix o_ix (d_var 2) (d_var 3)) (d_var 5))) da_nil)))))))))))))
  (ds_one (ds_ret (d_ty b_tup (by rfl) T.n_tuple PyProof.Rows.boot_tuple (da_cons (d_lc (own := [("row", 6)]) rfl sc__law_short.nd (di_seq (d_var 2)) (blkOk_by (by kernel_rfl)) (fun _ _ _ _ _ => (dg_name (i := 6) sc__law_short.nd rfl (by first | exact Or.inl rfl | exact Or.inr rfl))) (fun _ _ _ _ _ => dts_nil) (fun _ _ _ _ _ => (d_ty b_tup (by rfl) T.n_tuple PyProof.Rows.boot_tuple (da_cons (d_var 6) da_nil)))) da_nil)))))))))
/-! _law_pick -/
theorem sc__law_pick : FnScope ["d", "menu"] ["d", "menu"] (defScope (topS 34)) := ⟨rfl, rfl, rfl, by decide +kernel, rfl, by decide +kernel, by decide +kernel⟩
theorem ok__law_pick (T : Tx K mg) : FnOk P w K mg base CX0 2 T.f__law_pick T.fd__law_pick ["d", "menu"] (spD 2 F__law_pick) :=
  fn_ok (N := ["d", "menu"]) T.F__law_pick sc__law_pick (by decide) (fun cdv A outer s H E hr => (show DSs _ _ g__law_pick from (ds_one (ds_ret (d_ix o_ix (d_var 1) (d_fn (n := 2) ((ok__law_take T).mono (by decide)) hr rfl T.g__law_take T.F__law_take.kp T.b__law_take pass0 (da_cons (d_var 0) (da_cons (d_bi b_len (by rfl) T.n_len PySem.boot_len (da_cons (d_var 1) da_nil)) da_nil))))))))
/-! _law_distances -/
theorem sc__law_distances : FnScope ["d", "n", "menu", "joints", "edges", "far", "rows", "k", "i", "j", "row"] ["d", "n"] (defScope (topS 35)) := ⟨rfl, rfl, rfl, by decide +kernel, rfl, by decide +kernel, by decide +kernel⟩
theorem ok__law_distances (T : Tx K mg) : FnOk P w K mg base CX0 4 T.f__law_distances T.fd__law_distances ["d", "n"] (spD 2 F__law_distances) :=
  fn_ok (N := ["d", "n", "menu", "joints", "edges", "far", "rows", "k", "i", "j", "row"]) T.F__law_distances sc__law_distances (by decide) (fun cdv A outer s H E hr => (show DSs _ _ g__law_distances from (ds_cons (ds_set (i := 2) sc__law_distances.nd rfl (by first | exact Or.inl rfl | exact Or.inr rfl) (d_fn (n := 2) ((ok__law_take T).mono (by decide)) hr rfl T.g__law_take T.F__law_take.kp T.b__law_take pass0 (da_cons (d_var 0) (da_cons d_int da_nil))))
  (ds_cons (ds_if (dt_cmp (o_eq hr.units) (d_var 2) d_int) (ds_cons (ds_asgL rfl (d_fn (n := 4) ((ok__law_tree T).mono (by decide)) hr rfl T.g__law_tree T.F__law_tree.kp T.b__law_tree pass0 (da_cons (d_var 0) (da_cons (d_var 1) (da_cons d_int (da_cons d_int da_nil))))) (sgs_cons (sg_name (i := 3) sc__law_distances.nd rfl (by first | exact Or.inl rfl | exact Or.inr rfl)) (sgs_cons (sg_name (i := 4) sc__law_distances.nd rfl (by first | exact Or.inl rfl | exact Or.inr rfl)) sgs_nil)))
  (ds_cons (ds_setA (i := 5) sc__law_distances.nd rfl (by first | exact Or.inl rfl | exact Or.inr rfl) (d_fn (n := 2) ((ok__law_along T).mono (by decide)) hr rfl T.g__law_along T.F__law_along.kp T.b__law_along pass0 (da_cons (d_var 3) (da_cons (d_var 4) da_nil))))
  (ds_one (ds_ret (d_ty b_tup (by rfl) T.n_tuple PyProof.Rows.boot_tuple (da_cons (d_lc (own := [("row", 10)]) rfl sc__law_distances.nd (di_seq (d_sl (d_var 5) do_none (do_some (d_var 1)))) (blkOk_by (by kernel_rfl)) (fun _ _ _ _ _ => (dg_name (i := 10) sc__law_distances.nd rfl (by first | exact Or.inl rfl | exact Or.inr rfl))) (fun _ _ _ _ _ => dts_nil) (fun _ _ _ _ _ => (d_ty b_tup (by rfl) T.n_tuple PyProof.Rows.boot_tuple (da_cons (d_sl (d_var 10) do_none (do_some (d_var 1))) da_nil)))) da_nil)))))) ds_nil)
  (ds_cons (ds_if (dt_cmp (o_eq hr.units) (d_var 2) d_int) (ds_cons (ds_setLc (i := 6) (own := [("row", 10)]) rfl sc__law_distances.nd rfl rfl (sw_true rfl rfl rfl (by kernel_rfl)) (di_seq (d_fn (n := 3) ((ok__law_table T).mono (by decide)) hr rfl T.g__law_table T.F__law_table.kp T.b__law_table pass0 (da_cons (d_var 0) (da_cons (d_var 1) (da_cons d_int da_nil))))) (blkOk_by (by kernel_rfl)) (fun _ _ _ _ _ => (dg_name (i := 10) sc__law_distances.nd rfl (by first | exact Or.inl rfl | exact Or.inr rfl))) (fun _ _ _ _ _ => dts_nil) (fun _ _ _ _ _ => (df_list (by rfl) T.n_list PyProof.Rows.boot_list (da_cons (d_var 10) da_nil))))
  (ds_cons (ds_for PassesOwn.never rfl (dif_range1 (by rfl) T.n_range (da_cons (d_var 1) da_nil)) (sg_name (i := 7) sc__law_distances.nd rfl (by first | exact Or.inl rfl | exact Or.inr rfl)) (show DSs _ _ b__law_distances_5 from (ds_one (ds_for PassesOwn.never rfl (dif_range1 (by rfl) T.n_range (da_cons (d_var 1) da_nil)) (sg_name (i := 8) sc__law_distances.nd rfl (by first | exact Or.inl rfl | exact Or.inr rfl)) (show DSs _ _ b__law_distances_4 from (ds_one (ds_for PassesOwn.never rfl (dif_range1 (by rfl) T.n_range (da_cons (d_var 1) da_nil)) (sg_name (i := 9) sc__law_distances.nd rfl (by first | exact Or.inl rfl | exact Or.inr rfl)) (show DSs _ _ b__law_distances_3 from (ds_one (ds_sub2 (i := 6) rfl (by first | exact Or.inl rfl | exact Or.inr (Or.inl rfl)) (d_var 8) (d_var 9) (d_bi (b_min2 rfl) (by rfl) T.n_min boot_min (da_cons (d_ix o_ix (d_ix o_ix (d_var 6) (d_var 8)) (d_var 9)) (da_cons (d_bi (b_max2 rfl) (by rfl) T.n_max boot_max (da_cons (d_ix o_ix (d_ix o_ix (d_var 6) (d_var 8)) (d_var 7)) (da_cons (d_ix o_ix (d_ix o_ix (d_var 6) (d_var 7)) (d_var 9)) da_nil))) da_nil)))))))))))))
  (ds_one (ds_ret (d_ty b_tup (by rfl) T.n_tuple PyProof.Rows.boot_tuple (da_cons (d_lc (own := [("row", 10)]) rfl sc__law_distances.nd (di_seq (d_var 6)) (blkOk_by (by kernel_rfl)) (fun _ _ _ _ _ => (dg_name (i := 10) sc__law_distances.nd rfl (by first | exact Or.inl rfl | exact Or.inr rfl))) (fun _ _ _ _ _ => dts_nil) (fun _ _ _ _ _ => (d_ty b_tup (by rfl) T.n_tuple PyProof.Rows.boot_tuple (da_cons (d_var 10) da_nil)))) da_nil)))))) ds_nil)
  (ds_one (ds_ret (d_fn (n := 1) ((ok__law_short T).mono (by decide)) hr rfl T.g__law_short T.F__law_short.kp T.b__law_short pass0 (da_cons (d_fn (n := 3) ((ok__law_table T).mono (by decide)) hr rfl T.g__law_table T.F__law_table.kp T.b__law_table pass0 (da_cons (d_var 0) (da_cons (d_var 1) (da_cons (d_fn (n := 2) ((ok__law_pick T).mono (by decide)) hr rfl T.g__law_pick T.F__law_pick.kp T.b__law_pick pass0 (da_cons (d_var 0) (da_cons (d_lst (da_cons d_int (da_cons d_int (da_cons d_int (da_cons d_int (da_cons d_int da_nil)))))) da_nil))) da_nil)))) da_nil)))))))))
/-! _law_subsets -/
theorem sc__law_subsets : FnScope ["n", "rows", "x", "row"] ["n"] (defScope (topS 36)) := ⟨rfl, rfl, rfl, by decide +kernel, rfl, by decide +kernel, by decide +kernel⟩
theorem ok__law_subsets (T : Tx K mg) : FnOk P w K mg base CX0 1 T.f__law_subsets T.fd__law_subsets ["n"] (spD 1 F__law_subsets) :=
  fn_ok (N := ["n", "rows", "x", "row"]) T.F__law_subsets sc__law_subsets (by decide) (fun cdv A outer s H E hr => (show DSs _ _ g__law_subsets from (ds_cons (ds_own (i := 1) sc__law_subsets.nd rfl (by first | exact Or.inl rfl | exact Or.inr rfl) (df_lst (daf_cons (df_lf (d_tup da_nil)) daf_nil)))
  (ds_cons (ds_for PassesOwn.never rfl (dif_range1 (by rfl) T.n_range (da_cons (d_var 0) da_nil)) (sg_name (i := 2) sc__law_subsets.nd rfl (by first | exact Or.inl rfl | exact Or.inr rfl)) (show DSs _ _ b__law_subsets_2 from (ds_one (ds_own (i := 1) sc__law_subsets.nd rfl (by first | exact Or.inl rfl | exact Or.inr rfl) (df_cat (d_var 1) (d_lc (own := [("row", 3)]) rfl sc__law_subsets.nd (di_seq (d_var 1)) (blkOk_by (by kernel_rfl)) (fun _ _ _ _ _ => (dg_name (i := 3) sc__law_subsets.nd rfl (by first | exact Or.inl rfl | exact Or.inr rfl))) (fun _ _ _ _ _ => dts_nil) (fun _ _ _ _ _ => (d_op o_add (d_var 3) (d_tup (da_cons (d_var 2) da_nil))))))))))
  (ds_one (ds_ret (d_bi (b_sortedE hr.units) (by rfl) T.n_sorted PyProof.Rows.boot_sorted (da_cons (d_var 1) da_nil))))))))
/-! law -/
theorem sc_law : FnScope ["script", "d", "n", "table", "every", "parts", "part", "size", "good", "many", "best", "last", "k", "told", "mine", "row", "x", "near", "order", "left", "c", "other", "y"] ["script"] (defScope (topS 37)) := ⟨rfl, rfl, rfl, by decide +kernel, rfl, by decide +kernel, by decide +kernel⟩
def c_law_1 : FE := (eLc (iSeq (eFn (fun ds => if ds.length = 1 then F__law_subsets ds else M.no) (eAs (eVar 2) eAs0))) [6] (gN 6) (bOf (e2 dGt (eCall bLen (eAs (eVar 6) eAs0)) (eC (.int 0)))) (eLf (eVar 6)))
def c_law_2 : FE := (eLc (iSeq (eVar 6)) [20] (gN 20) bYes (e2 dLe (e2 dIx (e2 dIx (eVar 3) (eVar 16)) (eVar 20)) (eVar 7)))
def c_law_3 : FE := (eLc (iSeq (eVar 4)) [16] (gN 16) bYes (eCall bAny (eAs c_law_2 eAs0)))
def c_law_4 : FE := (eLc (iSeq (eVar 5)) [21] (gN 21) bYes (eAnd (e2 dLt (eCall bLen (eAs (eVar 21) eAs0)) (eVar 9)) (e2 dLe (eFn (fun ds => if ds.length = 3 then F_part_distance ds else M.no) (eAs (eVar 3) (eAs (eVar 21) (eAs (eVar 4) eAs0)))) (eVar 7))))
def c_law_5 : FE := (eLc (iSeq (eVar 5)) [21] (gN 21) (bOf (e2 dEq (eCall bLen (eAs (eVar 21) eAs0)) (eVar 12))) (eFn (fun ds => if ds.length = 3 then F_part_distance ds else M.no) (eAs (eVar 3) (eAs (eVar 21) (eAs (eVar 4) eAs0)))))
def b_law_6 : FS := (sSeq (sTg (eFn (fun ds => if ds.length = 2 then F_centers ds else M.no) (eAs (eVar 3) (eAs (eVar 12) eAs0))) (gT 2 (gsC (gN 13) (gsC (gN 14) gs0))))
  (sSeq (sIf (bOr (bOf (e2 dNe (eVar 13) (eCall bMinS (eAs c_law_5 eAs0)))) (bOr (bOf (e2 dNe (eFn (fun ds => if ds.length = 3 then F_part_distance ds else M.no) (eAs (eVar 3) (eAs (eVar 14) (eAs (eVar 4) eAs0)))) (eVar 13))) (bAnd (bOf (e2 dIsN (eVar 11) (eC .non))) (bOf (e2 dGt (eVar 13) (eVar 11)))))) (sRet (eC (.bl false))) sNil)
  (sSet 11 (eVar 13))))
def c_law_7 : FE := (eLc (iSeq (eVar 17)) [22] (gN 22) bYes (e2 dIx (e2 dIx (eVar 3) (eVar 16)) (eVar 22)))
def g_law : FS := (sSeq (sSet 2 (e2 dAdd (eC (.int 1)) (eFn (fun ds => if ds.length = 2 then F__law_take ds else M.no) (eAs (eVar 1) (eAs (eC (.int 6)) eAs0)))))
  (sSeq (sSet 3 (eFn (fun ds => if ds.length = 2 then F__law_distances ds else M.no) (eAs (eVar 1) (eAs (eVar 2) eAs0))))
  (sSeq (sSet 4 (eTupR1 (eVar 2)))
  (sSeq (sOwn 5 c_law_1)
  (sSeq (sSet 6 (eFn (fun ds => if ds.length = 2 then F__law_pick ds else M.no) (eAs (eVar 1) (eAs (eVar 5) eAs0))))
  (sSeq (sSet 7 (eFn (fun ds => if ds.length = 2 then F__law_pick ds else M.no) (eAs (eVar 1) (eAs (e2 dIx (eVar 3) (eC (.int 0))) eAs0))))
  (sSeq (sSet 8 (eCall bAll (eAs c_law_3 eAs0)))
  (sSeq (sIf (bOr (bOf (e2 dNe (e2 dLe (eFn (fun ds => if ds.length = 3 then F_part_distance ds else M.no) (eAs (eVar 3) (eAs (eVar 4) (eAs (eVar 6) eAs0)))) (eVar 7)) (eVar 8))) (bOf (e2 dNe (eFn (fun ds => if ds.length = 3 then F_reach ds else M.no) (eAs (eVar 3) (eAs (eVar 6) (eAs (eVar 4) eAs0)))) (eC (.int 0))))) (sRet (eC (.bl false))) sNil)
  (sSeq (sTg (eFn (fun ds => if ds.length = 2 then F_covers ds else M.no) (eAs (eVar 3) (eAs (eVar 7) eAs0))) (gT 2 (gsC (gN 9) (gsC (gN 10) gs0))))
  (sSeq (sIf (bOr (bOf (e2 dGt (eFn (fun ds => if ds.length = 3 then F_part_distance ds else M.no) (eAs (eVar 3) (eAs (eVar 10) (eAs (eVar 4) eAs0)))) (eVar 7))) (bTr (eCall bAny (eAs c_law_4 eAs0)))) (sRet (eC (.bl false))) sNil)
  (sSeq (sSet 11 (eC .non))
  (sSeq (sFor (iOf rg2 (eAs (eC (.int 1)) (eAs (e2 dAdd (eVar 2) (eC (.int 1))) eAs0))) (gN 12) b_law_6)
  (sSeq (sIf (bOr (bOf (e2 dNe (eVar 11) (eC (.int 0)))) (bOf (e2 dNe (eFn (fun ds => if ds.length = 2 then F_centers ds else M.no) (eAs (eVar 3) (eAs (eC (.int 1)) eAs0))) (eTup (eAs (e2 dIx (eFn (fun ds => if ds.length = 1 then F_radius ds else M.no) (eAs (eVar 3) eAs0)) (eC (.int 0))) (eAs (eTup (eAs (e2 dIx (e2 dIx (eFn (fun ds => if ds.length = 1 then F_radius ds else M.no) (eAs (eVar 3) eAs0)) (eC (.int 1))) (eC (.int 0))) eAs0)) eAs0)))))) (sRet (eC (.bl false))) sNil)
  (sSeq (sSet 15 (eFn (fun ds => if ds.length = 2 then F_net ds else M.no) (eAs (eVar 3) (eAs (eVar 7) eAs0))))
  (sSeq (sIf (bOr (bOf (e2 dGt (eFn (fun ds => if ds.length = 3 then F_part_distance ds else M.no) (eAs (eVar 3) (eAs (eVar 15) (eAs (eVar 4) eAs0)))) (eVar 7))) (bOf (e2 dIsN (eFn (fun ds => if ds.length = 3 then F_is_net ds else M.no) (eAs (eVar 3) (eAs (eVar 15) (eAs (eVar 7) eAs0)))) (eC (.bl true))))) (sRet (eC (.bl false))) sNil)
  (sSeq (sSet 16 (eFn (fun ds => if ds.length = 2 then F__law_take ds else M.no) (eAs (eVar 1) (eAs (eVar 2) eAs0))))
  (sSeq (sSet 17 (eFn (fun ds => if ds.length = 3 then F_ball ds else M.no) (eAs (eVar 3) (eAs (eVar 16) (eAs (eVar 7) eAs0)))))
  (sSeq (sIf (bOr (bOf (e2 dNotIn (eVar 16) (eVar 17))) (bOr (bOf (e2 dGt (eFn (fun ds => if ds.length = 3 then F_part_distance ds else M.no) (eAs (eVar 3) (eAs (eTup (eAs (eVar 16) eAs0)) (eAs (eVar 17) eAs0)))) (eVar 7))) (bOf (e2 dNe (eFn (fun ds => if ds.length = 3 then F_reach ds else M.no) (eAs (eVar 3) (eAs (eVar 17) (eAs (eTup (eAs (eVar 16) eAs0)) eAs0)))) (eCall bMaxS (eAs c_law_7 eAs0)))))) (sRet (eC (.bl false))) sNil)
  (sSeq (sSet 12 (e2 dAdd (eC (.int 1)) (eFn (fun ds => if ds.length = 2 then F__law_take ds else M.no) (eAs (eVar 1) (eAs (eVar 2) eAs0)))))
  (sSeq (sTg (eFn (fun ds => if ds.length = 2 then F_spread_out ds else M.no) (eAs (eVar 3) (eAs (eVar 12) eAs0))) (gT 2 (gsC (gN 18) (gsC (gN 19) gs0))))
  (sRet (e2 dEq (eFn (fun ds => if ds.length = 3 then F_part_distance ds else M.no) (eAs (eVar 3) (eAs (eCall bTup (eAs (e1 mSortSet (eVar 18)) eAs0)) (eAs (eVar 4) eAs0)))) (eVar 19)))))))))))))))))))))))
theorem law_body (T : Tx K mg) {k : Nat} (hk : 5 ≤ k) (cdv : Value) (A : Around) (outer : List Env) (s : Shared) (H : Hp) (E : XK) {f : Addr} (hr0 : Room k (A.deeper (envOfC "law" (defScope (topS 37)) s.heap.objs.size f cdv))) :
    DSs (cxOf CX0 P w K mg base ["script", "d", "n", "table", "every", "parts", "part", "size", "good", "many", "best", "last", "k", "told", "mine", "row", "x", "near", "order", "left", "c", "other", "y"] "law" (defScope (topS 37)) f cdv A outer s H E).nox ((defBody (topS 37)).drop 1) g_law := by
  have hr := hr0.mono hk
  exact (show DSs _ _ g_law from (ds_cons (ds_set (i := 2) sc_law.nd rfl (by first | exact Or.inl rfl | exact Or.inr rfl) (d_op o_add d_int (d_fn (n := 2) ((ok__law_take T).mono (by decide)) hr rfl T.g__law_take T.F__law_take.kp T.b__law_take pass0 (da_cons (d_var 1) (da_cons d_int da_nil)))))
  (ds_cons (ds_set (i := 3) sc_law.nd rfl (by first | exact Or.inl rfl | exact Or.inr rfl) (d_fn (n := 2) ((ok__law_distances T).mono (by decide)) hr rfl T.g__law_distances T.F__law_distances.kp T.b__law_distances pass0 (da_cons (d_var 1) (da_cons (d_var 2) da_nil))))
  (ds_cons (ds_set (i := 4) sc_law.nd rfl (by first | exact Or.inl rfl | exact Or.inr rfl) (d_tupR1 rfl (by rfl) T.n_tuple (by rfl) T.n_range (d_var 2)))
  (ds_cons (ds_setLc (i := 5) (own := [("part", 6)]) rfl sc_law.nd rfl rfl (sw_true rfl rfl rfl (by kernel_rfl)) (di_seq (d_fn (n := 1) ((ok__law_subsets T).mono (by decide)) hr rfl T.g__law_subsets T.F__law_subsets.kp T.b__law_subsets pass0 (da_cons (d_var 2) da_nil))) (blkOk_by (by kernel_rfl)) (fun _ _ _ _ _ => (dg_name (i := 6) sc_law.nd rfl (by first | exact Or.inl rfl | exact Or.inr rfl))) (fun _ _ _ _ _ => (dts_one (dt_cmp o_gt (d_bi b_len (by rfl) T.n_len PySem.boot_len (da_cons (d_var 6) da_nil)) d_int))) (fun _ _ _ _ _ => (df_lf (d_var 6))))
  (ds_cons (ds_set (i := 6) sc_law.nd rfl (by first | exact Or.inl rfl | exact Or.inr rfl) (d_fn (n := 2) ((ok__law_pick T).mono (by decide)) hr rfl T.g__law_pick T.F__law_pick.kp T.b__law_pick pass0 (da_cons (d_var 1) (da_cons (d_var 5) da_nil))))
  (ds_cons (ds_set (i := 7) sc_law.nd rfl (by first | exact Or.inl rfl | exact Or.inr rfl) (d_fn (n := 2) ((ok__law_pick T).mono (by decide)) hr rfl T.g__law_pick T.F__law_pick.kp T.b__law_pick pass0 (da_cons (d_var 1) (da_cons (d_ix o_ix (d_var 3) d_int) da_nil))))
  (ds_cons (ds_set (i := 8) sc_law.nd rfl (by first | exact Or.inl rfl | exact Or.inr rfl) (d_bi (b_all rfl) (by rfl) T.n_all boot_all (da_cons (d_lc (own := [("x", 16)]) rfl sc_law.nd (di_seq (d_var 4)) (blkOk_by (by kernel_rfl)) (fun _ _ _ _ _ => (dg_name (i := 16) sc_law.nd rfl (by first | exact Or.inl rfl | exact Or.inr rfl))) (fun _ _ _ _ _ => dts_nil) (fun _ _ _ _ _ => (d_bi (b_any rfl) (by rfl) T.n_any boot_any (da_cons (d_lc (own := [("c", 20)]) rfl sc_law.nd (di_seq (d_var 6)) (blkOk_by (by kernel_rfl)) (fun _ _ _ _ _ => (dg_name (i := 20) sc_law.nd rfl (by first | exact Or.inl rfl | exact Or.inr rfl))) (fun _ _ _ _ _ => dts_nil) (fun _ _ _ _ _ => (d_cmp o_le (d_ix o_ix (d_ix o_ix (d_var 3) (d_var 16)) (d_var 20)) (d_var 7)))) da_nil)))) da_nil)))
  (ds_cons (ds_if (PW.pt (dw_or (dt_cmp (o_ne hr.units) (d_cmp o_le (d_fn (n := 3) ((ok_part_distance T).mono (by decide)) hr rfl T.g_part_distance T.F_part_distance.kp T.b_part_distance pass0 (da_cons (d_var 3) (da_cons (d_var 4) (da_cons (d_var 6) da_nil)))) (d_var 7)) (d_var 8)) (dw_or1 (dt_cmp (o_ne hr.units) (d_fn (n := 3) ((ok_reach T).mono (by decide)) hr rfl T.g_reach T.F_reach.kp T.b_reach pass0 (da_cons (d_var 3) (da_cons (d_var 6) (da_cons (d_var 4) da_nil)))) d_int)))) (ds_one (ds_ret d_bl)) ds_nil)
  (ds_cons (ds_asg (d_fn (n := 2) ((ok_covers T).mono (by decide)) hr rfl T.g_covers T.F_covers.kp T.b_covers pass0 (da_cons (d_var 3) (da_cons (d_var 7) da_nil))) (sg_tup rfl (sgs_cons (sg_name (i := 9) sc_law.nd rfl (by first | exact Or.inl rfl | exact Or.inr rfl)) (sgs_cons (sg_name (i := 10) sc_law.nd rfl (by first | exact Or.inl rfl | exact Or.inr rfl)) sgs_nil))))
  (ds_cons (ds_if (PW.pt (dw_or (dt_cmp o_gt (d_fn (n := 3) ((ok_part_distance T).mono (by decide)) hr rfl T.g_part_distance T.F_part_distance.kp T.b_part_distance pass0 (da_cons (d_var 3) (da_cons (d_var 10) (da_cons (d_var 4) da_nil)))) (d_var 7)) (dw_or1 (dt_tr (d_bi (b_any rfl) (by rfl) T.n_any boot_any (da_cons (d_lc (own := [("other", 21)]) rfl sc_law.nd (di_seq (d_var 5)) (blkOk_by (by kernel_rfl)) (fun _ _ _ _ _ => (dg_name (i := 21) sc_law.nd rfl (by first | exact Or.inl rfl | exact Or.inr rfl))) (fun _ _ _ _ _ => dts_nil) (fun _ _ _ _ _ => (d_and (d_cmp o_lt (d_bi b_len (by rfl) T.n_len PySem.boot_len (da_cons (d_var 21) da_nil)) (d_var 9)) (d_one (d_cmp o_le (d_fn (n := 3) ((ok_part_distance T).mono (by decide)) hr rfl T.g_part_distance T.F_part_distance.kp T.b_part_distance pass0 (da_cons (d_var 3) (da_cons (d_var 21) (da_cons (d_var 4) da_nil)))) (d_var 7)))))) da_nil)))))) (ds_one (ds_ret d_bl)) ds_nil)
  (ds_cons (ds_set (i := 11) sc_law.nd rfl (by first | exact Or.inl rfl | exact Or.inr rfl) d_non)
  (ds_cons (ds_for PassesOwn.never rfl (dif_range2 (by rfl) T.n_range (da_cons d_int (da_cons (d_op o_add (d_var 2) d_int) da_nil))) (sg_name (i := 12) sc_law.nd rfl (by first | exact Or.inl rfl | exact Or.inr rfl)) (show DSs _ _ b_law_6 from (ds_cons (ds_asg (d_fn (n := 2) ((ok_centers T).mono (by decide)) hr rfl T.g_centers T.F_centers.kp T.b_centers pass0 (da_cons (d_var 3) (da_cons (d_var 12) da_nil))) (sg_tup rfl (sgs_cons (sg_name (i := 13) sc_law.nd rfl (by first | exact Or.inl rfl | exact Or.inr rfl)) (sgs_cons (sg_name (i := 14) sc_law.nd rfl (by first | exact Or.inl rfl | exact Or.inr rfl)) sgs_nil))))
  (ds_cons (ds_if (PW.pt (dw_or (dt_cmp (o_ne hr.units) (d_var 13) (d_bi (b_minS rfl) (by rfl) T.n_min boot_min (da_cons (d_lc (own := [("other", 21)]) rfl sc_law.nd (di_seq (d_var 5)) (blkOk_by (by kernel_rfl)) (fun _ _ _ _ _ => (dg_name (i := 21) sc_law.nd rfl (by first | exact Or.inl rfl | exact Or.inr rfl))) (fun _ _ _ _ _ => (dts_one (dt_cmp (o_eq hr.units) (d_bi b_len (by rfl) T.n_len PySem.boot_len (da_cons (d_var 21) da_nil)) (d_var 12)))) (fun _ _ _ _ _ => (d_fn (n := 3) ((ok_part_distance T).mono (by decide)) hr rfl T.g_part_distance T.F_part_distance.kp T.b_part_distance pass0 (da_cons (d_var 3) (da_cons (d_var 21) (da_cons (d_var 4) da_nil)))))) da_nil))) (dw_or (dt_cmp (o_ne hr.units) (d_fn (n := 3) ((ok_part_distance T).mono (by decide)) hr rfl T.g_part_distance T.F_part_distance.kp T.b_part_distance pass0 (da_cons (d_var 3) (da_cons (d_var 14) (da_cons (d_var 4) da_nil)))) (d_var 13)) (dw_or1 (PW.pt (dw_and (dt_cmp o_isN (d_var 11) d_non) (dw_and1 (dt_cmp o_gt (d_var 13) (d_var 11))))))))) (ds_one (ds_ret d_bl)) ds_nil)
  (ds_one (ds_set (i := 11) sc_law.nd rfl (by first | exact Or.inl rfl | exact Or.inr rfl) (d_var 13)))))))
  (ds_cons (ds_if (PW.pt (dw_or (dt_cmp (o_ne hr.units) (d_var 11) d_int) (dw_or1 (dt_cmp (o_ne hr.units) (d_fn (n := 2) ((ok_centers T).mono (by decide)) hr rfl T.g_centers T.F_centers.kp T.b_centers pass0 (da_cons (d_var 3) (da_cons d_int da_nil))) (d_tup (da_cons (d_ix o_ix (d_fn (n := 1) ((ok_radius T).mono (by decide)) hr rfl T.g_radius T.F_radius.kp T.b_radius pass0 (da_cons (d_var 3) da_nil)) d_int) (da_cons (d_tup (da_cons (d_ix o_ix (d_ix o_ix (d_fn (n := 1) ((ok_radius T).mono (by decide)) hr rfl T.g_radius T.F_radius.kp T.b_radius pass0 (da_cons (d_var 3) da_nil)) d_int) d_int) da_nil)) da_nil))))))) (ds_one (ds_ret d_bl)) ds_nil)
  (ds_cons (ds_set (i := 15) sc_law.nd rfl (by first | exact Or.inl rfl | exact Or.inr rfl) (d_fn (n := 2) ((ok_net T).mono (by decide)) hr rfl T.g_net T.F_net.kp T.b_net pass0 (da_cons (d_var 3) (da_cons (d_var 7) da_nil))))
  (ds_cons (ds_if (PW.pt (dw_or (dt_cmp o_gt (d_fn (n := 3) ((ok_part_distance T).mono (by decide)) hr rfl T.g_part_distance T.F_part_distance.kp T.b_part_distance pass0 (da_cons (d_var 3) (da_cons (d_var 15) (da_cons (d_var 4) da_nil)))) (d_var 7)) (dw_or1 (dt_cmp o_isN (d_fn (n := 3) ((ok_is_net T).mono (by decide)) hr rfl T.g_is_net T.F_is_net.kp T.b_is_net pass0 (da_cons (d_var 3) (da_cons (d_var 15) (da_cons (d_var 7) da_nil)))) d_bl)))) (ds_one (ds_ret d_bl)) ds_nil)
  (ds_cons (ds_set (i := 16) sc_law.nd rfl (by first | exact Or.inl rfl | exact Or.inr rfl) (d_fn (n := 2) ((ok__law_take T).mono (by decide)) hr rfl T.g__law_take T.F__law_take.kp T.b__law_take pass0 (da_cons (d_var 1) (da_cons (d_var 2) da_nil))))
  (ds_cons (ds_set (i := 17) sc_law.nd rfl (by first | exact Or.inl rfl | exact Or.inr rfl) (d_fn (n := 3) ((ok_ball T).mono (by decide)) hr rfl T.g_ball T.F_ball.kp T.b_ball pass0 (da_cons (d_var 3) (da_cons (d_var 16) (da_cons (d_var 7) da_nil)))))
  (ds_cons (ds_if (PW.pt (dw_or (dt_cmp o_notIn (d_var 16) (d_var 17)) (dw_or (dt_cmp o_gt (d_fn (n := 3) ((ok_part_distance T).mono (by decide)) hr rfl T.g_part_distance T.F_part_distance.kp T.b_part_distance pass0 (da_cons (d_var 3) (da_cons (d_tup (da_cons (d_var 16) da_nil)) (da_cons (d_var 17) da_nil)))) (d_var 7)) (dw_or1 (dt_cmp (o_ne hr.units) (d_fn (n := 3) ((ok_reach T).mono (by decide)) hr rfl T.g_reach T.F_reach.kp T.b_reach pass0 (da_cons (d_var 3) (da_cons (d_var 17) (da_cons (d_tup (da_cons (d_var 16) da_nil)) da_nil)))) (d_bi (b_maxS rfl) (by rfl) T.n_max boot_max (da_cons (d_lc (own := [("y", 22)]) rfl sc_law.nd (di_seq (d_var 17)) (blkOk_by (by kernel_rfl)) (fun _ _ _ _ _ => (dg_name (i := 22) sc_law.nd rfl (by first | exact Or.inl rfl | exact Or.inr rfl))) (fun _ _ _ _ _ => dts_nil) (fun _ _ _ _ _ => (d_ix o_ix (d_ix o_ix (d_var 3) (d_var 16)) (d_var 22)))) da_nil))))))) (ds_one (ds_ret d_bl)) ds_nil)
  (ds_cons (ds_set (i := 12) sc_law.nd rfl (by first | exact Or.inl rfl | exact Or.inr rfl) (d_op o_add d_int (d_fn (n := 2) ((ok__law_take T).mono (by decide)) hr rfl T.g__law_take T.F__law_take.kp T.b__law_take pass0 (da_cons (d_var 1) (da_cons (d_var 2) da_nil)))))
  (ds_cons (ds_asg (d_fn (n := 2) ((ok_spread_out T).mono (by decide)) hr rfl T.g_spread_out T.F_spread_out.kp T.b_spread_out pass0 (da_cons (d_var 3) (da_cons (d_var 12) da_nil))) (sg_tup rfl (sgs_cons (sg_name (i := 18) sc_law.nd rfl (by first | exact Or.inl rfl | exact Or.inr rfl)) (sgs_cons (sg_name (i := 19) sc_law.nd rfl (by first | exact Or.inl rfl | exact Or.inr rfl)) sgs_nil))))
  (ds_one (ds_ret (d_cmp (o_eq hr.units) (d_fn (n := 3) ((ok_part_distance T).mono (by decide)) hr rfl T.g_part_distance T.F_part_distance.kp T.b_part_distance pass0 (da_cons (d_var 3) (da_cons (d_ty b_tup (by rfl) T.n_tuple PyProof.Rows.boot_tuple (da_cons (d_sortSet (by rfl) (by rfl) T.n_sorted (by rfl) T.n_set (d_var 18)) da_nil)) (da_cons (d_var 4) da_nil)))) (d_var 19)))))))))))))))))))))))))
end
section
variable {P : Program} {w : World} {K : PySem.W.Frag} {mg : Str → Option Value} {base : Heap}
theorem sc__law_begin : FnScope ["script", "seed", "cell"] ["script"] (defScope (topS 27)) := ⟨rfl, rfl, rfl, by decide +kernel, rfl, by decide +kernel, by decide +kernel⟩
theorem ok__law_begin (T : Tx K mg) : FnOk P w K mg base CX0 1 T.f__law_begin T.fd__law_begin ["script"] (spBegin K) := by
  refine T.F__law_begin.ok sc__law_begin (fun vs H Q E ⟨a, ns, e, _⟩ => by rw [e]; rfl) (fun cdv A outer s H vs Q E hr h => ?_)
  have sl := sc__law_begin.nd
  exact ⟨_, pss_cons (ps_set (i := 1) sl rfl (Or.inl rfl) pe_int)
    (pss_cons (ps_for PassesOwn.never rfl (pi_list (pv 0)) (pg_name (i := 2) sl rfl (Or.inl rfl)) (pss_one (ps_set (i := 1) sl rfl (Or.inl rfl)
      (pe_op op_mod (pe_op op_add (pe_op op_add (pe_op op_mul (pv 1) pe_int) (pe_op op_mod (pe_callTy call_int1 (by rfl) T.n_int PyProof.Rows.boot_int (pa_cons (pv 2) pa_nil)) pe_int)) pe_int) pe_int))))
    (pss_one (ps_ret (pe_lst (pa_cons (pe_callTy call_list_of (by rfl) T.n_list PyProof.Rows.boot_list (pa_cons (pv 0) pa_nil)) (pa_cons pe_int (pa_cons pe_int (pa_cons (pv 1) pa_nil)))))))), begin_reads h⟩
theorem ok_law (T : Tx K mg) {f : Addr} {fd : FuncData} (F : Fun K "law" "law" (topS 37) f fd)
    (hg : ∀ st : Src, ∃ st', g_law (.no :: .rd .src :: List.replicate 21 .no) st = some (.rt (.bl true), st')) : FnOk P w K mg base CX0 6 f fd ["script"] (spLaw K) := by
  refine F.ok sc_law (fun vs H Q E ⟨a, ns, e, _⟩ => by rw [e]; rfl) (fun cdv A outer s H vs Q E hr h => ?_)
  obtain ⟨a, ns, rfl, hS, hl, q⟩ := h
  have G := (ok__law_begin (P := P) (w := w) (base := base) T).mono (show 1 ≤ 5 by decide)
  refine ⟨_, show PSs _ ((defBody (topS 37)).head (by decide +kernel) :: (defBody (topS 37)).drop 1) _ from pss_cons (ps_set (i := 1) sc_law.nd rfl (by first | exact Or.inl rfl | exact Or.inr rfl) (pe_call G hr rfl T.g__law_begin T.F__law_begin.kp T.b__law_begin .nil pass0 (pa_cons (pv 0) pa_nil))) (law_body T (Nat.le_refl 5) cdv A outer s H E hr), ?_⟩
  refine ⟨.ref a, rfl, a, ns, rfl, hS, hl, fun H' p q' seed hp hq hpq h1 h2 => ?_⟩
  exact law_reads (n := 21) hpq h1 h2 hg q
end
end K36
set_option Elab.async false
set_option linter.all false
set_option maxRecDepth 100000
set_option maxHeartbeats 1000000
/-! K36l: parts, covers and centers (plain). -/
namespace K36
open PySem PySem.Spec PyProof.Rows L2 DL PF
section
variable {n : Nat} {t : Nat → Nat → Int} {a b l : List Nat} {size : Int}
theorem rch_nn (h : Dist n t) (ha : Prt n a) (hb : ∀ x ∈ b, x < n) (hne : b ≠ []) : 0 ≤ rchL t a b := by
  obtain ⟨i, hi, e⟩ := rch_in (t := t) (b := b) ha.ne
  obtain ⟨c, hc, q⟩ := near_in (t := t) hne i
  have := h.lo i c (ha.asc.2 i hi) (hb c hc)
  omega
theorem rch_zero (h : Dist n t) (ha : Prt n a) : rchL t a (En n) = 0 := by
  have n1 := h.n1
  have x := rch_nn h ha (prt_all n1).asc.2 (prt_all n1).ne
  have y : rchL t a (En n) ≤ 0 := rch_le ha.ne fun i hi => ⟨i, List.mem_range.mpr (ha.asc.2 i hi), by rw [h.dg i (ha.asc.2 i hi)]; exact Int.le_refl _⟩
  omega
theorem pd_all (h : Dist n t) (ha : Prt n a) : pdL t a (En n) = rchL t (En n) a ∧ pdL t (En n) a = rchL t (En n) a := by
  have x := rch_zero h ha
  have y := rch_nn h (prt_all h.n1) ha.asc.2 ha.ne
  unfold pdL
  rw [x]
  omega
theorem cov_rch (h : Dist n t) (ha : a ≠ []) : cov n t size a = true ↔ rchL t (En n) a ≤ size := by
  rw [cov_iff, rch_le_iff (prt_all h.n1).ne ha]
  simp [En]
theorem prt_chs {k : Nat} (k1 : 1 ≤ k) (h : l ∈ chs n k) : Prt n l := by
  obtain ⟨x, y⟩ := mem_chs.mp h
  exact ⟨x, fun e => by rw [e] at y; simp at y; omega⟩
theorem asc_nodup (h : Asc n l) : l.Nodup := h.1.imp fun {a b} h => Nat.ne_of_lt h
theorem missing (h : Asc n l) (hl : l.length < n) : ∃ x, x < n ∧ x ∉ l := by
  by_cases c : ∃ x, x < n ∧ x ∉ l
  · exact c
  · have hs : List.range n ⊆ l := fun x hx => by
      by_cases d : x ∈ l
      · exact d
      · exact absurd ⟨x, List.mem_range.mp hx, d⟩ c
    have := List.Nodup.length_le_of_subset List.nodup_range hs
    rw [List.length_range] at this
    omega
theorem full_has (h : Asc n l) (hl : l.length = n) {x : Nat} (hx : x < n) : x ∈ l := by
  by_cases d : x ∈ l
  · exact d
  · have hn : (x :: l).Nodup := List.nodup_cons.mpr ⟨d, asc_nodup h⟩
    have hs : x :: l ⊆ List.range n := fun y hy => by
      rcases List.mem_cons.mp hy with rfl | hy
      · exact List.mem_range.mpr hx
      · exact List.mem_range.mpr (h.2 y hy)
    have := List.Nodup.length_le_of_subset hn hs
    rw [List.length_range, List.length_cons] at this
    omega
/-- one more center does no harm -/
theorem one_more (h : Dist n t) {k : Nat} (k1 : 1 ≤ k) (kn : k < n) (hl : l ∈ chs n k) : ∃ q, q ∈ chs n (k + 1) ∧ rchL t (En n) q ≤ rchL t (En n) l := by
  obtain ⟨x1, x2⟩ := mem_chs.mp hl
  obtain ⟨x, hx, hxl⟩ := missing x1 (by omega)
  have hp := prt_chs k1 hl
  have hm : ∀ y, y ∈ wh n (fun y => decide (y ∈ x :: l)) ↔ y ∈ x :: l := fun y => by
    rw [mem_wh, decide_eq_true_iff]
    constructor
    · exact fun z => z.2
    · intro z
      refine ⟨?_, z⟩
      rcases List.mem_cons.mp z with rfl | z
      · exact hx
      · exact x1.2 y z
  have ha : Asc n (wh n fun y => decide (y ∈ x :: l)) := wh_asc _
  have hn : (x :: l).Nodup := List.nodup_cons.mpr ⟨hxl, asc_nodup x1⟩
  have l1 := List.Nodup.length_le_of_subset hn fun y hy => (hm y).mpr hy
  have l2 := List.Nodup.length_le_of_subset (asc_nodup ha) fun y hy => (hm y).mp hy
  rw [List.length_cons] at l1 l2
  refine ⟨_, mem_chs.mpr ⟨ha, by omega⟩, rch_le (prt_all h.n1).ne fun i hi => ?_⟩
  obtain ⟨c, hc, q⟩ := (rch_le_iff (prt_all h.n1).ne hp.ne).mp (Int.le_refl _) i hi
  exact ⟨c, (hm c).mpr (List.mem_cons_of_mem _ hc), q⟩
theorem rch_full (h : Dist n t) (hl : l ∈ chs n n) : rchL t (En n) l = 0 := by
  have hp := prt_chs h.n1 hl
  obtain ⟨x1, x2⟩ := mem_chs.mp hl
  have y := rch_nn h (prt_all h.n1) hp.asc.2 hp.ne
  have z : rchL t (En n) l ≤ 0 := rch_le (prt_all h.n1).ne fun i hi => ⟨i, full_has x1 x2 (List.mem_range.mp hi), by rw [h.dg i (List.mem_range.mp hi)]; exact Int.le_refl _⟩
  omega
theorem near_one (x i : Nat) : near t [x] i = t i x := rfl
theorem rch_one (h : Dist n t) {i : Nat} (hi : i < n) : rchL t (En n) [i] = ecc n t i := by
  show mxF n (near t [i]) = mxF n (t i)
  exact mxF_congr fun j hj => by rw [near_one, h.sy j i hj hi]
theorem rch_same (h1 : a ≠ []) (h2 : b ≠ []) (h3 : l ≠ []) (e : ∀ x, x ∈ a ↔ x ∈ b) : rchL t l a = rchL t l b := by
  refine Int.le_antisymm (rch_le h3 fun i hi => ?_) (rch_le h3 fun i hi => ?_)
  · obtain ⟨c, hc, q⟩ := (rch_le_iff h3 h2).mp (Int.le_refl _) i hi
    exact ⟨c, (e c).mpr hc, q⟩
  · obtain ⟨c, hc, q⟩ := (rch_le_iff h3 h1).mp (Int.le_refl _) i hi
    exact ⟨c, (e c).mp hc, q⟩
theorem wh_first {p : Nat → Bool} {i : Nat} (hi : i < n) (hp : p i = true) (hf : ∀ j, j < i → p j = false) : ∃ r, wh n p = i :: r := by
  have ha : Asc n (wh n p) := wh_asc p
  have hm : i ∈ wh n p := mem_wh.mpr ⟨hi, hp⟩
  cases e : wh n p with
  | nil => rw [e] at hm; simp at hm
  | cons x r =>
    rw [e] at hm ha
    have hx : x ∈ wh n p := by rw [e]; exact List.mem_cons_self
    have hx2 := (mem_wh.mp hx).2
    have hxi : ¬ x < i := fun z => by rw [hf x z] at hx2; cases hx2
    rcases List.mem_cons.mp hm with rfl | hm
    · exact ⟨r, rfl⟩
    · have := (List.pairwise_cons.mp ha.1).1 i hm
      omega
theorem int_back : ∀ Z : List Int, (∀ z ∈ Z, 0 ≤ z) → Z = intsN (Z.map Int.toNat)
  | [], _ => rfl
  | z :: Z, h => by
    have e := int_back Z fun y hy => h y (List.mem_cons_of_mem _ hy)
    have h0 := h z List.mem_cons_self
    show z :: Z = ((z.toNat : Nat) : Int) :: intsN (Z.map Int.toNat)
    rw [← e, Int.toNat_of_nonneg h0]
/-- numbers in order, each once -/
theorem sorted_set (hL : ∀ x ∈ a, x < n) (hne : a ≠ []) : ∃ q, Prt n q ∧ (∀ x, x ∈ q ↔ x ∈ a) ∧ sortS (intsN a) = intsN q := by
  have hm : ∀ z ∈ sortS (intsN a), ∃ x : Nat, x ∈ a ∧ (x : Int) = z := fun z hz => by
    obtain ⟨x, hx, e⟩ := List.mem_map.mp (mem_sortS.mp hz)
    exact ⟨x, hx, e⟩
  have e1 : sortS (intsN a) = intsN ((sortS (intsN a)).map Int.toNat) := int_back _ fun z hz => by
    obtain ⟨x, _, rfl⟩ := hm z hz
    omega
  have mem : ∀ x, x ∈ (sortS (intsN a)).map Int.toNat ↔ x ∈ a := fun x => by
    constructor
    · intro h
      obtain ⟨z, hz, rfl⟩ := List.mem_map.mp h
      obtain ⟨y, hy, rfl⟩ := hm z hz
      simpa using hy
    · intro h
      exact List.mem_map.mpr ⟨(x : Int), mem_sortS.mpr (List.mem_map.mpr ⟨x, h, rfl⟩), by simp⟩
  refine ⟨(sortS (intsN a)).map Int.toNat, ⟨⟨?_, fun x hx => hL x ((mem x).mp hx)⟩, fun e => ?_⟩, mem, e1⟩
  · have := sortS_lt (intsN a)
    rw [e1] at this
    unfold intsN at this
    have := List.pairwise_map.mp this
    exact this.imp fun {a b} h => by omega
  · obtain ⟨x, hx⟩ := List.exists_mem_of_ne_nil a hne
    have := (mem x).mpr hx
    rw [e] at this
    simp at this
end
end K36
set_option Elab.async false
set_option linter.all false
set_option maxRecDepth 100000
set_option maxHeartbeats 4000000
/-! K36n: the law is true over data. Printed by mk36n.py. -/
namespace K36
open PySem PySem.Spec PyProof.Rows L2 DL PF
theorem law_true : ∀ st : Src, ∃ st', g_law (.no :: .rd .src :: List.replicate 21 .no) st = some (.rt (.bl true), st') := by
  intro st
  obtain ⟨n0, hn0, e1⟩ := take_nat st (m := 6) (by omega) (by omega)
  have e1 : F__law_take [.src, .int 6] st = some (.int (n0 : Nat), (take st (6 : Nat)).2) := e1
  generalize (take st (6 : Nat)).2 = s1 at e1
  obtain ⟨n, hn⟩ : ∃ n, n = n0 + 1 := ⟨_, rfl⟩
  have h1 : 1 ≤ n := by omega
  have h6 : n ≤ 6 := by omega
  obtain ⟨t, s2, dt, hd2⟩ := dists (n := n) h1 (by omega) s1
  have D1 := dt.toDist
  have pE := prt_all h1
  have rr : ∀ m : Nat, m ≤ 1000 → rg1 [.int (m : Nat)] = some (seqF m fun i => .int (i : Nat)) := fun m hm => rg1_F (by omega)
  -- subsets
  obtain ⟨P, hP, lP, eP⟩ := subsetsE (s := s2) h6
  obtain ⟨Q, hQ⟩ : ∃ Q, Q = P.filter fun l => decide (0 < l.length) := ⟨_, rfl⟩
  have mQ : ∀ l, l ∈ Q ↔ Prt n l := fun l => by
    rw [hQ, List.mem_filter, hP, decide_eq_true_iff]
    exact ⟨fun ⟨a, b⟩ => ⟨a, fun e => by rw [e] at b; simp at b⟩, fun ⟨a, b⟩ => ⟨a, List.length_pos_iff.mpr b⟩⟩
  have lQ : Q.length ≤ 64 := by rw [hQ]; exact Nat.le_trans (List.length_filter_le _ _) lP
  have Q0 : 0 < Q.length := List.length_pos_of_mem ((mQ _).mpr pE)
  have eQ : D.lst (Q.map pL) = vL Q.length fun i => pL (Q.getD i []) := congrArg D.lst (lst_seq [] pL Q)
  obtain ⟨pi, s3, hpi, e3⟩ := pick_F (n := Q.length) (f := fun i => pL (Q.getD i [])) (D.lst (Q.map pL)) (.inr eQ) Q0 (by omega) s2
  obtain ⟨part, hpart⟩ : ∃ part, part = Q.getD pi [] := ⟨_, rfl⟩
  have pP : Prt n part := (mQ _).mp (by rw [hpart]; simp [List.getD, hpi])
  rw [← hpart] at e3
  obtain ⟨zi, s4, hzi, e4⟩ := pick_F (n := n) (f := fun i => .int (t 0 i)) (rF n (t 0)) (.inl rfl) h1 (by omega) s3
  obtain ⟨size, hsize⟩ : ∃ size, size = t 0 zi := ⟨_, rfl⟩
  have h0 : 0 ≤ size := by rw [hsize]; exact D1.lo 0 zi h1 hzi
  rw [← hsize] at e4
  -- reckoned by the program
  have pd : ∀ (a b : List Nat) (s : Src), Prt n a → Prt n b → F_part_distance [tF n t, pL a, pL b] s = some (.int (pdL t a b), s) := fun a b s ha hb => pdE D1 ha hb
  have pd1 : ∀ (a : List Nat) (s : Src), Prt n a → F_part_distance [tF n t, pL a, pL (En n)] s = some (.int (rchL t (En n) a), s) := fun a s ha => by rw [pd a _ s ha pE, (pd_all D1 ha).1]
  have pd2 : ∀ (a : List Nat) (s : Src), Prt n a → F_part_distance [tF n t, pL (En n), pL a] s = some (.int (rchL t (En n) a), s) := fun a s ha => by rw [pd _ a s pE ha, (pd_all D1 ha).2]
  have rc : ∀ (a b : List Nat) (s : Src), Prt n a → Prt n b → F_reach [tF n t, pL a, pL b] s = some (.int (rchL t a b), s) := fun a b s ha hb => reachE (by omega) ha hb
  obtain ⟨many, best, m1, m2, m3, m4, m5, eC⟩ := coversE (s := s4) D1 h6 h0
  have pB := prt_chs m1 m3
  have cB : rchL t (En n) best ≤ size := (cov_rch D1 pB.ne).mp m4
  -- centers
  have hc : ∀ k, 1 ≤ k ∧ k ≤ n → ∃ l, l ∈ chs n k ∧ (∀ q ∈ chs n k, rchL t (En n) l ≤ rchL t (En n) q) ∧ (k = 1 → ∃ i, i < n ∧ l = [i] ∧ ∀ j, j < i → rchL t (En n) [i] < rchL t (En n) [j]) ∧ F_centers [tF n t, .int (k : Nat)] s4 = some (keyD (rchL t (En n) l) l, s4) := fun k hk => centersE D1 h6 hk.1 hk.2
  obtain ⟨lk, hlk⟩ : ∃ lk : Nat → List Nat, ∀ k, 1 ≤ k ∧ k ≤ n → lk k ∈ chs n k ∧ (∀ q ∈ chs n k, rchL t (En n) (lk k) ≤ rchL t (En n) q) ∧ (k = 1 → ∃ i, i < n ∧ lk k = [i] ∧ ∀ j, j < i → rchL t (En n) [i] < rchL t (En n) [j]) ∧ F_centers [tF n t, .int (k : Nat)] s4 = some (keyD (rchL t (En n) (lk k)) (lk k), s4) := by
    refine ⟨fun k => if h : 1 ≤ k ∧ k ≤ n then Classical.choose (hc k h) else [], fun k hk => ?_⟩
    have := Classical.choose_spec (hc k hk)
    simp only [hk, and_self, dif_pos]
    exact this
  obtain ⟨M, hM⟩ : ∃ M : Nat → Int, M = fun k => rchL t (En n) (lk k) := ⟨_, rfl⟩
  have Mle : ∀ k, 1 ≤ k → k < n → M (k + 1) ≤ M k := fun k k1 kn => by
    obtain ⟨a1, _⟩ := hlk k ⟨k1, by omega⟩
    obtain ⟨_, b2, _⟩ := hlk (k + 1) ⟨by omega, by omega⟩
    obtain ⟨q, hq, e⟩ := one_more D1 k1 kn a1
    have := b2 q hq
    rw [hM]
    show rchL t (En n) (lk (k + 1)) ≤ rchL t (En n) (lk k)
    omega
  have Mn : M n = 0 := by
    rw [hM]
    exact rch_full D1 (hlk n ⟨h1, Nat.le_refl _⟩).1
  have Mc : ∀ k, 1 ≤ k → k ≤ n → F_centers [tF n t, .int (k : Nat)] s4 = some (.tup [.int (M k), pL (lk k)], s4) := fun k k1 kn => by
    have := (hlk k ⟨k1, kn⟩).2.2.2
    rw [hM]
    exact this
  -- one center
  obtain ⟨_, o2, o3, _⟩ := hlk 1 ⟨Nat.le_refl _, h1⟩
  obtain ⟨ci, hci, eci, lci⟩ := o3 rfl
  have M1 : M 1 = ecc n t ci := by rw [hM]; show rchL t (En n) (lk 1) = _; rw [eci]; exact rch_one D1 hci
  have Mmin : mnF n (ecc n t) = M 1 := mnF_eq hci M1.symm fun j hj => by
    have := o2 [j] (by rw [chs_one]; exact List.mem_map.mpr ⟨j, List.mem_range.mpr hj, rfl⟩)
    rw [rch_one D1 hj] at this
    rw [hM]
    exact this
  obtain ⟨rw1, ewh⟩ := wh_first (n := n) (p := fun k => decide (ecc n t k = mnF n (ecc n t))) hci (by rw [Mmin, M1]; simp) fun j hj => by
    have := lci j hj
    rw [rch_one D1 hci, rch_one D1 (by omega)] at this
    rw [Mmin, M1]
    exact decide_eq_false (by omega)
  have rad : ∀ s, F_radius [tF n t] s = some (.tup [.int (M 1), pL (ci :: rw1)], s) := fun s => by
    have e : F_radius [tF n t] s = some (.tup [.int (mnF n (ecc n t)), pL (wh n fun k => decide (ecc n t k = mnF n (ecc n t)))], s) := radius (s := s) D1.toTab
    rw [ewh, Mmin] at e
    exact e
  -- nets
  obtain ⟨row, hN, eN⟩ := netE (s := s4) D1 h0
  have pR : Prt n row := ⟨hN.asc, fun e => by
    obtain ⟨c, hc, _⟩ := hN.nr 0 h1
    rw [e] at hc
    simp at hc⟩
  have cR : rchL t (En n) row ≤ size := rch_le pE.ne fun i hi => hN.nr i (List.mem_range.mp hi)
  have eI := isnetE (s := s4) D1 h0 hN
  -- balls
  obtain ⟨x, hx, e5⟩ := take_nat s4 (m := n) (by omega) (by omega)
  generalize (take s4 (n : Nat)).2 = s5 at e5
  have pX := prt_one hx
  obtain ⟨nr, hnr⟩ : ∃ nr, nr = ballL n t x size := ⟨_, rfl⟩
  have bm : ∀ y, y ∈ nr ↔ y < n ∧ t x y ≤ size := fun y => by rw [hnr, ballL, mem_wh, decide_eq_true_iff]
  have xin : x ∈ nr := (bm x).mpr ⟨hx, by rw [D1.dg x hx]; exact h0⟩
  have pNr : Prt n nr := ⟨by rw [hnr]; exact wh_asc _, List.ne_nil_of_mem xin⟩
  have eBall : ∀ s, F_ball [tF n t, .int (x : Nat), .int size] s = some (pL nr, s) := fun s => by rw [hnr]; exact ballE D1.toTab hx
  have near1 : pdL t [x] nr ≤ size := by
    have q1 : rchL t [x] nr ≤ size := rch_le (by simp) fun i hi => by
      have : i = x := by simpa using hi
      subst this
      exact ⟨i, xin, by rw [D1.dg i hx]; exact h0⟩
    have q2 : rchL t nr [x] ≤ size := rch_le pNr.ne fun i hi => ⟨x, by simp, by
      obtain ⟨u1, u2⟩ := (bm i).mp hi
      rw [D1.sy i x u1 hx]; exact u2⟩
    unfold pdL
    omega
  have near2 : rchL t nr [x] = mxI (nr.map fun y => t x y) := congrArg mxI (List.map_congr_left fun y hy => by rw [near_one, D1.sy y x ((bm y).mp hy).1 hx])
  -- points spread out
  obtain ⟨k0, hk0, e6⟩ := take_nat s5 (m := n) (by omega) (by omega)
  generalize (take s5 (n : Nat)).2 = s6 at e6
  obtain ⟨L, hL, lL, eS⟩ := spreadE (s := s6) D1 (k := k0 + 1) (by omega) (by omega)
  have Lne : L ≠ [] := fun e => by rw [e] at lL; simp at lL
  obtain ⟨q, pq, mq, eq⟩ := sorted_set hL Lne
  have eSet : mSortSet (pL L) = some (.lst (q.map fun i => .int (i : Nat))) := by
    rw [pL_ints]
    show (intL _).bind _ = _
    rw [PF.intL_map, Option.bind_some, if_pos (by unfold intsN; rw [List.length_map]; omega), eq]
    unfold intsN
    rw [List.map_map]; rfl
  have eLast : rchL t (En n) q = rchL t (En n) L := rch_same pq.ne Lne pE.ne mq
  refine ⟨s6, ?_⟩
  show Yl (g_law [.no, .rd .src, .no, .no, .no, .no, .no, .no, .no, .no, .no, .no, .no, .no, .no, .no, .no, .no, .no, .no, .no, .no, .no] st) (.rt (.bl true)) s6
  unfold g_law
  refine .seq (.setS (d := .int (n : Nat)) (s1 := s1) (by simp [e1]; omega) rfl) ?_
  simp only [List.set_cons_succ, List.set_cons_zero]
  refine .seq (.setS (d := tF n t) (s1 := s2) (by simp [hd2]) (by simp)) ?_
  simp only [List.set_cons_succ, List.set_cons_zero]
  refine .seq (.set (d := pL (En n)) (tupR1 (n := n) (by omega) (by simp)) (by simp)) ?_
  simp only [List.set_cons_succ, List.set_cons_zero]
  refine .seq (.own (d := .lst (Q.map pL)) ?_) ?_
  · rw [hQ]
    unfold c_law_1
    refine .lcI (s1 := s2) (l := P) (f := pL) (t := fun l => decide (0 < l.length)) (by simp [eP]) (by omega) fun l hl => ⟨_, rfl, ?_, fun _ => .lf (by simp) (by simp)⟩
    have e : bLen [pL l] = some (.int (l.length : Nat)) := by
      show some (D.int (((l.map _).length : Nat) : Int)) = _
      rw [List.length_map]
    simp [e]
  simp only [List.set_cons_succ, List.set_cons_zero]
  refine .seq (.setS (d := pL part) (s1 := s3) (by simp [e3]) (by simp)) ?_
  simp only [List.set_cons_succ, List.set_cons_zero]
  have ix0 : dIx (tF n t) (.int 0) = some (rF n (t 0)) := vT_ix0 h1
  refine .seq (.setS (d := .int size) (s1 := s4) (by simp [ix0, e4, -ix_int]) rfl) ?_
  simp only [List.set_cons_succ, List.set_cons_zero]
  refine .seq (.set (d := .bl (cov n t size part)) (.call (.as1 (d := vL n fun i => .bl (part.any fun c => decide (t i c ≤ size))) ?_) (all_F n _)) rfl) ?_
  · unfold c_law_3
    refine .lc (s1 := s4) (f := fun i => .int (i : Nat)) ?_ (by omega) fun i hi => ⟨_, rfl, rfl, ?_⟩
    · simp [pL, En]
      rfl
    · refine .call (.as1 (d := .lst (part.map fun c => .bl (decide (t i c ≤ size)))) ?_) (any_lst part _)
      unfold c_law_2
      have ll := asc_len pP.asc
      refine .lcL (s1 := s4) (l := part) (f := fun i => .int (i : Nat)) (by simp [pL]) (by omega) fun c hc => ⟨_, rfl, rfl, ?_⟩
      have := pP.asc.2 c hc
      simp (disch := omega)
  simp only [List.set_cons_succ, List.set_cons_zero]
  refine .seq (.pass (.or0 (s1 := s4) (.bOf ?_) (.bOf ?_))) ?_
  · have ec : decide (rchL t (En n) part ≤ size) = cov n t size part := by
      rw [Bool.eq_iff_iff, decide_eq_true_iff, cov_rch D1 pP.ne]
    have p := pd2 part s4 pP
    have q : dNe (.bl (decide (rchL t (En n) part ≤ size))) (.bl (cov n t size part)) = some (.bl false) := ne_self' (by rw [ec]) (by simp)
    simp [p, q]
  · have p := rc part (En n) s4 pP pE
    rw [rch_zero D1 pP] at p
    simp [p]
  refine .seq (.tg (d := .tup [.int (many : Nat), pL best]) (s1 := s4) (by simp [eC]) (by simp) rfl) ?_
  simp only [List.set_cons_succ, List.set_cons_zero]
  refine .seq (.pass (.or0 (s1 := s4) (.bOf ?_) (.bTr (.call (.as1 (d := .lst (Q.map fun _ => .bl false)) ?_) (any_allno _ fun d hd => ?_)) rfl))) ?_
  · have p := pd1 best s4 pB
    simp [p]
    omega
  · unfold c_law_4
    refine .lcL (s1 := s4) (l := Q) (f := pL) (by simp) (by omega) fun l hl => ⟨_, rfl, rfl, ?_⟩
    have pl := (mQ l).mp hl
    have e : bLen [pL l] = some (.int (l.length : Nat)) := by
      show some (D.int (((l.map _).length : Nat) : Int)) = _
      rw [List.length_map]
    by_cases c : l.length < many
    · have cf := m5 l.length (List.length_pos_iff.mpr pl.ne) c l (mem_chs.mpr ⟨pl.asc, rfl⟩)
      have p := pd1 l s4 pl
      have nc : ¬ rchL t (En n) l ≤ size := fun z => by
        rw [(cov_rch D1 pl.ne).mpr z] at cf
        cases cf
      refine .eand (s1 := s4) (by simp [e, c]) ?_
      simp [p]
      omega
    · simp [eAnd, e, c]
  · obtain ⟨_, _, e⟩ := List.mem_map.mp hd
    exact e.symm
  refine .seq (.set (d := .non) (by simp) rfl) ?_
  simp only [List.set_cons_succ, List.set_cons_zero]
  have rg : rg2 [.int 1, .int ((n : Int) + 1)] = some (seqF n fun k => .int ((1 + k : Nat) : Int)) := rg2_n (i := 1) (n := n + 1) (by omega) (by omega)
  refine .then_ (P := fun δ s' => ∃ Z A B C : Sl, δ = [.no, .rd .src, .rd (.int (n : Nat)), .rd (tF n t), .rd (pL (En n)), .ow (.lst (Q.map pL)), .rd (pL part), .rd (.int size), .rd (.bl (cov n t size part)), .rd (.int (many : Nat)), .rd (pL best), Z, A, B, C, .no, .no, .no, .no, .no, .no, .no, .no] ∧ s' = s4 ∧ Z = .rd (.int (M n))) ?_ fun δ s' ⟨Z, A, B, C, e, es, eZ⟩ => ?_
  · refine .imp (Yl.for_ (n := n) (f := fun k => .int ((1 + k : Nat) : Int)) (s1 := s4) (fun i δ s' => ∃ Z A B C : Sl, δ = [.no, .rd .src, .rd (.int (n : Nat)), .rd (tF n t), .rd (pL (En n)), .ow (.lst (Q.map pL)), .rd (pL part), .rd (.int size), .rd (.bl (cov n t size part)), .rd (.int (many : Nat)), .rd (pL best), Z, A, B, C, .no, .no, .no, .no, .no, .no, .no, .no] ∧ s' = s4 ∧ ((i = 0 ∧ Z = .rd .non) ∨ (0 < i ∧ Z = .rd (.int (M i))))) (by simp [rg]) ⟨_, _, _, _, rfl, rfl, .inl ⟨rfl, rfl⟩⟩ ?_) fun δ s' ⟨Z, A, B, C, e, es, h⟩ => ⟨Z, A, B, C, e, es, ?_⟩
    · rintro i δ s' hi ⟨Z, A, B, C, rfl, rfl, hZ⟩
      refine ⟨rfl, _, rfl, ?_⟩
      have mc : F_centers [tF n t, .int ((1 : Int) + (i : Int))] s' = some (.tup [.int (M (1 + i)), pL (lk (1 + i))], s') := Mc (1 + i) (by omega) (by omega)
      obtain ⟨a1, a2, _, _⟩ := hlk (1 + i) ⟨by omega, by omega⟩
      have pl := prt_chs (by omega) a1
      have p := pd1 (lk (1 + i)) s' pl
      have pM : rchL t (En n) (lk (1 + i)) = M (1 + i) := by rw [hM]
      rw [pM] at p
      unfold b_law_6
      refine .mk (.seq (.tg (d := .tup [.int (M (1 + i)), pL (lk (1 + i))]) (s1 := s') (by simp [mc]) (by simp) rfl) (.seq (.pass (.or0 (s1 := s') (.bOf (.e2 (s1 := s') (a := .int (M (1 + i))) (b := .int (M (1 + i))) (by simp) (.call (.as1 (d := .lst (((Q.filter fun l => decide (l.length = 1 + i)).map fun l => rchL t (En n) l).map .int)) ?_) ?_) (by simp))) (.or0 (s1 := s') (.bOf ?_) ?_))) (.set (d := .int (M (1 + i))) (by simp) rfl))) ⟨_, _, _, _, rfl, rfl, .inr ⟨by omega, by rw [Nat.add_comm]⟩⟩
      · rw [List.map_map]
        unfold c_law_5
        refine .lcI (s1 := s') (l := Q) (f := pL) (t := fun l => decide (l.length = 1 + i)) (by simp) (by omega) fun l hl => ⟨_, rfl, ?_, fun _ => ?_⟩
        · have e : bLen [pL l] = some (.int (l.length : Nat)) := by
            show some (D.int (((l.map _).length : Nat) : Int)) = _
            rw [List.length_map]
          have ei : ((l.length : Int) = 1 + (i : Int)) ↔ l.length = 1 + i := by omega
          simp [e, ei]
        · have p := pd1 l s' ((mQ l).mp hl)
          simp [p]
      · have hin : lk (1 + i) ∈ Q.filter fun l => decide (l.length = 1 + i) := List.mem_filter.mpr ⟨(mQ _).mpr pl, decide_eq_true (mem_chs.mp a1).2⟩
        have hne := map_ne (f := fun l => rchL t (En n) l) (List.ne_nil_of_mem hin)
        rw [min_lst hne]
        obtain ⟨w1, w2⟩ := mnI_spec _ hne
        have w3 := w2 _ (List.mem_map.mpr ⟨_, hin, rfl⟩)
        obtain ⟨l, hl, el⟩ := List.mem_map.mp w1
        obtain ⟨l1, l2⟩ := List.mem_filter.mp hl
        have := a2 l (mem_chs.mpr ⟨((mQ l).mp l1).asc, of_decide_eq_true l2⟩)
        congr 2
        omega
      · simp [p]
      · rcases hZ with ⟨e0, rfl⟩ | ⟨e0, rfl⟩
        · have : dIsN .non .non = some (.bl false) := rfl
          exact .and0 (.bOf (by simp [this]))
        · have : dIsN (.int (M i)) .non = some (.bl true) := rfl
          have ml := Mle i (by omega) (by omega)
          rw [Nat.add_comm i 1] at ml
          refine .and1 (s1 := s') (.bOf (by simp [this])) (.bOf ?_)
          simp
          omega
    · rcases h with ⟨e0, _⟩ | ⟨_, h⟩
      · omega
      · exact h
  subst e es eZ
  have mc1 : F_centers [tF n t, .int 1] s' = some (.tup [.int (M 1), pL (lk 1)], s') := Mc 1 (Nat.le_refl _) h1
  refine .seq (.pass (.or0 (s1 := s') (.bOf ?_) (.bOf (.e2 (s1 := s') (a := .tup [.int (M 1), pL [ci]]) (b := .tup [.int (M 1), pL [ci]]) ?_ ?_ (ne_self' rfl (by simp [pL])))))) ?_
  · simp [Mn]
  · simp [mc1, eci]
  · simp [rad, pL]
  refine .seq (.set (d := pL row) (by simp [eN]) (by simp)) ?_
  simp only [List.set_cons_succ, List.set_cons_zero]
  refine .seq (.pass (.or0 (s1 := s') (.bOf ?_) (.bOf ?_))) ?_
  · have p := pd1 row s' pR
    simp [p]
    omega
  · have : dIsN (.bl true) (.bl true) = some (.bl false) := rfl
    simp [eI, this]
  refine .seq (.setS (d := .int (x : Nat)) (s1 := s5) (by simp [e5]) rfl) ?_
  simp only [List.set_cons_succ, List.set_cons_zero]
  refine .seq (.set (d := pL nr) (by simp [eBall]) (by simp)) ?_
  simp only [List.set_cons_succ, List.set_cons_zero]
  refine .seq (.pass (.or0 (s1 := s5) (.bOf ?_) (.or0 (s1 := s5) (.bOf (.e2 (s1 := s5) (a := .int (pdL t [x] nr)) (b := .int size) (.fn (ds := [tF n t, pL [x], pL nr]) (s1 := s5) (.as_ (s1 := s5) (by simp) (.as_ (s1 := s5) (by simp [pL]) (.as1 (by simp)))) (pd [x] nr s5 pX pNr)) (by simp) ?_)) (.bOf (.e2 (s1 := s5) (a := .int (rchL t nr [x])) (b := .int (rchL t nr [x])) (.fn (ds := [tF n t, pL nr, pL [x]]) (s1 := s5) (.as_ (s1 := s5) (by simp) (.as_ (s1 := s5) (by simp) (.as1 (by simp [pL])))) (rc nr [x] s5 pNr pX)) (.call (.as1 (d := .lst ((nr.map fun y => t x y).map .int)) ?_) (by rw [max_lst (map_ne pNr.ne), near2])) (by simp)))))) ?_
  · simp [notIn_pL, xin]
  · simp
    omega
  · rw [List.map_map]
    unfold c_law_7
    have ll := asc_len pNr.asc
    refine .lcL (s1 := s5) (l := nr) (f := fun i => .int (i : Nat)) (by simp [pL]) (by omega) fun y hy => ⟨_, rfl, rfl, ?_⟩
    have := ((bm y).mp hy).1
    simp (disch := omega)
  refine .seq (.setS (d := .int ((k0 + 1 : Nat) : Int)) (s1 := s6) (by simp [e6]; omega) rfl) ?_
  simp only [List.set_cons_succ, List.set_cons_zero]
  refine .seq (.tg (d := .tup [pL L, .int (rchL t (En n) L)]) (s1 := s6) ?_ (by simp) rfl) ?_
  · exact .fn (ds := [tF n t, .int ((k0 + 1 : Nat) : Int)]) (s1 := s6) (by simp) eS
  simp only [List.set_cons_succ, List.set_cons_zero]
  have pf := pd1 q s6 pq
  rw [eLast] at pf
  refine .ret (.e2 (s1 := s6) (a := .int (rchL t (En n) L)) (b := .int (rchL t (En n) L)) (.fn (ds := [tF n t, pL q, pL (En n)]) (s1 := s6) (.as_ (s1 := s6) (by simp) (.as_ (s1 := s6) (.call (.as1 (d := .lst (q.map fun i => .int (i : Nat))) (by simp [eSet])) rfl) (.as1 (by simp)))) pf) (by simp) (by simp))
end K36
set_option Elab.async false
set_option linter.all false
set_option maxRecDepth 100000
set_option maxHeartbeats 4000000
namespace K36
open PySem PySem.Spec PyProof.Rows L2 DL PF
theorem all_mk {l : PySem.W.OpenLaw} {w : World} {K : PySem.W.Frag} {h : Heap} {mg : Str → Option Value} {fa : Addr} (X : K.In h) (G : h.Ns mainGlobals mg) (hfa : mg "law" = some (.ref fa))
    {f0 : Addr} {od0 an0 : Option Addr} {sl0 : Array (Option Value)} {oc0 kV0 dc0 pm0 cd0 ct0 : Value} (a0 : PySem.W.nsIn K mainGlobals "is_integer" = some (some (.ref f0))) (l0 : K.lookup f0 = some ⟨oc0, od0, .func (PySem.W.fnOf "is_integer" "is_integer" (defArgs (topS 4)) (defBody (topS 4)) (defScope (topS 4)) .none kV0 dc0 pm0 an0 cd0 ct0), sl0⟩) (c0 : PySem.W.codeIn K cd0 "is_integer" = true) (k0 : PySem.W.keepIn K (.ref f0) = true)
    {f1 : Addr} {od1 an1 : Option Addr} {sl1 : Array (Option Value)} {oc1 kV1 dc1 pm1 cd1 ct1 : Value} (a1 : PySem.W.nsIn K mainGlobals "check_table" = some (some (.ref f1))) (l1 : K.lookup f1 = some ⟨oc1, od1, .func (PySem.W.fnOf "check_table" "check_table" (defArgs (topS 8)) (defBody (topS 8)) (defScope (topS 8)) .none kV1 dc1 pm1 an1 cd1 ct1), sl1⟩) (c1 : PySem.W.codeIn K cd1 "check_table" = true) (k1 : PySem.W.keepIn K (.ref f1) = true)
    {f2 : Addr} {od2 an2 : Option Addr} {sl2 : Array (Option Value)} {oc2 kV2 dc2 pm2 cd2 ct2 : Value} (a2 : PySem.W.nsIn K mainGlobals "choices" = some (some (.ref f2))) (l2 : K.lookup f2 = some ⟨oc2, od2, .func (PySem.W.fnOf "choices" "choices" (defArgs (topS 9)) (defBody (topS 9)) (defScope (topS 9)) .none kV2 dc2 pm2 an2 cd2 ct2), sl2⟩) (c2 : PySem.W.codeIn K cd2 "choices" = true) (k2 : PySem.W.keepIn K (.ref f2) = true)
    {f3 : Addr} {od3 an3 : Option Addr} {sl3 : Array (Option Value)} {oc3 kV3 dc3 pm3 cd3 ct3 : Value} (a3 : PySem.W.nsIn K mainGlobals "distance_paper" = some (some (.ref f3))) (l3 : K.lookup f3 = some ⟨oc3, od3, .func (PySem.W.fnOf "distance_paper" "distance_paper" (defArgs (topS 10)) (defBody (topS 10)) (defScope (topS 10)) .none kV3 dc3 pm3 an3 cd3 ct3), sl3⟩) (c3 : PySem.W.codeIn K cd3 "distance_paper" = true) (k3 : PySem.W.keepIn K (.ref f3) = true)
    {f4 : Addr} {od4 an4 : Option Addr} {sl4 : Array (Option Value)} {oc4 kV4 dc4 pm4 cd4 ct4 : Value} (a4 : PySem.W.nsIn K mainGlobals "check_distances" = some (some (.ref f4))) (l4 : K.lookup f4 = some ⟨oc4, od4, .func (PySem.W.fnOf "check_distances" "check_distances" (defArgs (topS 11)) (defBody (topS 11)) (defScope (topS 11)) .none kV4 dc4 pm4 an4 cd4 ct4), sl4⟩) (c4 : PySem.W.codeIn K cd4 "check_distances" = true) (k4 : PySem.W.keepIn K (.ref f4) = true)
    {f5 : Addr} {od5 an5 : Option Addr} {sl5 : Array (Option Value)} {oc5 kV5 dc5 pm5 cd5 ct5 : Value} (a5 : PySem.W.nsIn K mainGlobals "widths" = some (some (.ref f5))) (l5 : K.lookup f5 = some ⟨oc5, od5, .func (PySem.W.fnOf "widths" "widths" (defArgs (topS 12)) (defBody (topS 12)) (defScope (topS 12)) .none kV5 dc5 pm5 an5 cd5 ct5), sl5⟩) (c5 : PySem.W.codeIn K cd5 "widths" = true) (k5 : PySem.W.keepIn K (.ref f5) = true)
    {f6 : Addr} {od6 an6 : Option Addr} {sl6 : Array (Option Value)} {oc6 kV6 dc6 pm6 cd6 ct6 : Value} (a6 : PySem.W.nsIn K mainGlobals "radius" = some (some (.ref f6))) (l6 : K.lookup f6 = some ⟨oc6, od6, .func (PySem.W.fnOf "radius" "radius" (defArgs (topS 13)) (defBody (topS 13)) (defScope (topS 13)) .none kV6 dc6 pm6 an6 cd6 ct6), sl6⟩) (c6 : PySem.W.codeIn K cd6 "radius" = true) (k6 : PySem.W.keepIn K (.ref f6) = true)
    {f7 : Addr} {od7 an7 : Option Addr} {sl7 : Array (Option Value)} {oc7 kV7 dc7 pm7 cd7 ct7 : Value} (a7 : PySem.W.nsIn K mainGlobals "ball" = some (some (.ref f7))) (l7 : K.lookup f7 = some ⟨oc7, od7, .func (PySem.W.fnOf "ball" "ball" (defArgs (topS 14)) (defBody (topS 14)) (defScope (topS 14)) .none kV7 dc7 pm7 an7 cd7 ct7), sl7⟩) (c7 : PySem.W.codeIn K cd7 "ball" = true) (k7 : PySem.W.keepIn K (.ref f7) = true)
    {f8 : Addr} {od8 an8 : Option Addr} {sl8 : Array (Option Value)} {oc8 kV8 dc8 pm8 cd8 ct8 : Value} (a8 : PySem.W.nsIn K mainGlobals "check_part" = some (some (.ref f8))) (l8 : K.lookup f8 = some ⟨oc8, od8, .func (PySem.W.fnOf "check_part" "check_part" (defArgs (topS 16)) (defBody (topS 16)) (defScope (topS 16)) .none kV8 dc8 pm8 an8 cd8 ct8), sl8⟩) (c8 : PySem.W.codeIn K cd8 "check_part" = true) (k8 : PySem.W.keepIn K (.ref f8) = true)
    {f9 : Addr} {od9 an9 : Option Addr} {sl9 : Array (Option Value)} {oc9 kV9 dc9 pm9 cd9 ct9 : Value} (a9 : PySem.W.nsIn K mainGlobals "reach" = some (some (.ref f9))) (l9 : K.lookup f9 = some ⟨oc9, od9, .func (PySem.W.fnOf "reach" "reach" (defArgs (topS 17)) (defBody (topS 17)) (defScope (topS 17)) .none kV9 dc9 pm9 an9 cd9 ct9), sl9⟩) (c9 : PySem.W.codeIn K cd9 "reach" = true) (k9 : PySem.W.keepIn K (.ref f9) = true)
    {f10 : Addr} {od10 an10 : Option Addr} {sl10 : Array (Option Value)} {oc10 kV10 dc10 pm10 cd10 ct10 : Value} (a10 : PySem.W.nsIn K mainGlobals "part_distance" = some (some (.ref f10))) (l10 : K.lookup f10 = some ⟨oc10, od10, .func (PySem.W.fnOf "part_distance" "part_distance" (defArgs (topS 18)) (defBody (topS 18)) (defScope (topS 18)) .none kV10 dc10 pm10 an10 cd10 ct10), sl10⟩) (c10 : PySem.W.codeIn K cd10 "part_distance" = true) (k10 : PySem.W.keepIn K (.ref f10) = true)
    {f11 : Addr} {od11 an11 : Option Addr} {sl11 : Array (Option Value)} {oc11 kV11 dc11 pm11 cd11 ct11 : Value} (a11 : PySem.W.nsIn K mainGlobals "check_size" = some (some (.ref f11))) (l11 : K.lookup f11 = some ⟨oc11, od11, .func (PySem.W.fnOf "check_size" "check_size" (defArgs (topS 20)) (defBody (topS 20)) (defScope (topS 20)) .none kV11 dc11 pm11 an11 cd11 ct11), sl11⟩) (c11 : PySem.W.codeIn K cd11 "check_size" = true) (k11 : PySem.W.keepIn K (.ref f11) = true)
    {f12 : Addr} {od12 an12 : Option Addr} {sl12 : Array (Option Value)} {oc12 kV12 dc12 pm12 cd12 ct12 : Value} (a12 : PySem.W.nsIn K mainGlobals "covers" = some (some (.ref f12))) (l12 : K.lookup f12 = some ⟨oc12, od12, .func (PySem.W.fnOf "covers" "covers" (defArgs (topS 21)) (defBody (topS 21)) (defScope (topS 21)) .none kV12 dc12 pm12 an12 cd12 ct12), sl12⟩) (c12 : PySem.W.codeIn K cd12 "covers" = true) (k12 : PySem.W.keepIn K (.ref f12) = true)
    {f13 : Addr} {od13 an13 : Option Addr} {sl13 : Array (Option Value)} {oc13 kV13 dc13 pm13 cd13 ct13 : Value} (a13 : PySem.W.nsIn K mainGlobals "centers" = some (some (.ref f13))) (l13 : K.lookup f13 = some ⟨oc13, od13, .func (PySem.W.fnOf "centers" "centers" (defArgs (topS 22)) (defBody (topS 22)) (defScope (topS 22)) .none kV13 dc13 pm13 an13 cd13 ct13), sl13⟩) (c13 : PySem.W.codeIn K cd13 "centers" = true) (k13 : PySem.W.keepIn K (.ref f13) = true)
    {f14 : Addr} {od14 an14 : Option Addr} {sl14 : Array (Option Value)} {oc14 kV14 dc14 pm14 cd14 ct14 : Value} (a14 : PySem.W.nsIn K mainGlobals "spread_out" = some (some (.ref f14))) (l14 : K.lookup f14 = some ⟨oc14, od14, .func (PySem.W.fnOf "spread_out" "spread_out" (defArgs (topS 23)) (defBody (topS 23)) (defScope (topS 23)) .none kV14 dc14 pm14 an14 cd14 ct14), sl14⟩) (c14 : PySem.W.codeIn K cd14 "spread_out" = true) (k14 : PySem.W.keepIn K (.ref f14) = true)
    {f15 : Addr} {od15 an15 : Option Addr} {sl15 : Array (Option Value)} {oc15 kV15 dc15 pm15 cd15 ct15 : Value} (a15 : PySem.W.nsIn K mainGlobals "is_net" = some (some (.ref f15))) (l15 : K.lookup f15 = some ⟨oc15, od15, .func (PySem.W.fnOf "is_net" "is_net" (defArgs (topS 24)) (defBody (topS 24)) (defScope (topS 24)) .none kV15 dc15 pm15 an15 cd15 ct15), sl15⟩) (c15 : PySem.W.codeIn K cd15 "is_net" = true) (k15 : PySem.W.keepIn K (.ref f15) = true)
    {f16 : Addr} {od16 an16 : Option Addr} {sl16 : Array (Option Value)} {oc16 kV16 dc16 pm16 cd16 ct16 : Value} (a16 : PySem.W.nsIn K mainGlobals "net" = some (some (.ref f16))) (l16 : K.lookup f16 = some ⟨oc16, od16, .func (PySem.W.fnOf "net" "net" (defArgs (topS 25)) (defBody (topS 25)) (defScope (topS 25)) .none kV16 dc16 pm16 an16 cd16 ct16), sl16⟩) (c16 : PySem.W.codeIn K cd16 "net" = true) (k16 : PySem.W.keepIn K (.ref f16) = true)
    {f17 : Addr} {od17 an17 : Option Addr} {sl17 : Array (Option Value)} {oc17 kV17 dc17 pm17 cd17 ct17 : Value} (a17 : PySem.W.nsIn K mainGlobals "_law_begin" = some (some (.ref f17))) (l17 : K.lookup f17 = some ⟨oc17, od17, .func (PySem.W.fnOf "_law_begin" "_law_begin" (defArgs (topS 27)) (defBody (topS 27)) (defScope (topS 27)) .none kV17 dc17 pm17 an17 cd17 ct17), sl17⟩) (c17 : PySem.W.codeIn K cd17 "_law_begin" = true) (k17 : PySem.W.keepIn K (.ref f17) = true)
    {f18 : Addr} {od18 an18 : Option Addr} {sl18 : Array (Option Value)} {oc18 kV18 dc18 pm18 cd18 ct18 : Value} (a18 : PySem.W.nsIn K mainGlobals "_law_take" = some (some (.ref f18))) (l18 : K.lookup f18 = some ⟨oc18, od18, .func (PySem.W.fnOf "_law_take" "_law_take" (defArgs (topS 28)) (defBody (topS 28)) (defScope (topS 28)) .none kV18 dc18 pm18 an18 cd18 ct18), sl18⟩) (c18 : PySem.W.codeIn K cd18 "_law_take" = true) (k18 : PySem.W.keepIn K (.ref f18) = true)
    {f19 : Addr} {od19 an19 : Option Addr} {sl19 : Array (Option Value)} {oc19 kV19 dc19 pm19 cd19 ct19 : Value} (a19 : PySem.W.nsIn K mainGlobals "_law_shuffled" = some (some (.ref f19))) (l19 : K.lookup f19 = some ⟨oc19, od19, .func (PySem.W.fnOf "_law_shuffled" "_law_shuffled" (defArgs (topS 29)) (defBody (topS 29)) (defScope (topS 29)) .none kV19 dc19 pm19 an19 cd19 ct19), sl19⟩) (c19 : PySem.W.codeIn K cd19 "_law_shuffled" = true) (k19 : PySem.W.keepIn K (.ref f19) = true)
    {f20 : Addr} {od20 an20 : Option Addr} {sl20 : Array (Option Value)} {oc20 kV20 dc20 pm20 cd20 ct20 : Value} (a20 : PySem.W.nsIn K mainGlobals "_law_tree" = some (some (.ref f20))) (l20 : K.lookup f20 = some ⟨oc20, od20, .func (PySem.W.fnOf "_law_tree" "_law_tree" (defArgs (topS 30)) (defBody (topS 30)) (defScope (topS 30)) .none kV20 dc20 pm20 an20 cd20 ct20), sl20⟩) (c20 : PySem.W.codeIn K cd20 "_law_tree" = true) (k20 : PySem.W.keepIn K (.ref f20) = true)
    {f21 : Addr} {od21 an21 : Option Addr} {sl21 : Array (Option Value)} {oc21 kV21 dc21 pm21 cd21 ct21 : Value} (a21 : PySem.W.nsIn K mainGlobals "_law_along" = some (some (.ref f21))) (l21 : K.lookup f21 = some ⟨oc21, od21, .func (PySem.W.fnOf "_law_along" "_law_along" (defArgs (topS 31)) (defBody (topS 31)) (defScope (topS 31)) .none kV21 dc21 pm21 an21 cd21 ct21), sl21⟩) (c21 : PySem.W.codeIn K cd21 "_law_along" = true) (k21 : PySem.W.keepIn K (.ref f21) = true)
    {f22 : Addr} {od22 an22 : Option Addr} {sl22 : Array (Option Value)} {oc22 kV22 dc22 pm22 cd22 ct22 : Value} (a22 : PySem.W.nsIn K mainGlobals "_law_table" = some (some (.ref f22))) (l22 : K.lookup f22 = some ⟨oc22, od22, .func (PySem.W.fnOf "_law_table" "_law_table" (defArgs (topS 32)) (defBody (topS 32)) (defScope (topS 32)) .none kV22 dc22 pm22 an22 cd22 ct22), sl22⟩) (c22 : PySem.W.codeIn K cd22 "_law_table" = true) (k22 : PySem.W.keepIn K (.ref f22) = true)
    {f23 : Addr} {od23 an23 : Option Addr} {sl23 : Array (Option Value)} {oc23 kV23 dc23 pm23 cd23 ct23 : Value} (a23 : PySem.W.nsIn K mainGlobals "_law_short" = some (some (.ref f23))) (l23 : K.lookup f23 = some ⟨oc23, od23, .func (PySem.W.fnOf "_law_short" "_law_short" (defArgs (topS 33)) (defBody (topS 33)) (defScope (topS 33)) .none kV23 dc23 pm23 an23 cd23 ct23), sl23⟩) (c23 : PySem.W.codeIn K cd23 "_law_short" = true) (k23 : PySem.W.keepIn K (.ref f23) = true)
    {f24 : Addr} {od24 an24 : Option Addr} {sl24 : Array (Option Value)} {oc24 kV24 dc24 pm24 cd24 ct24 : Value} (a24 : PySem.W.nsIn K mainGlobals "_law_pick" = some (some (.ref f24))) (l24 : K.lookup f24 = some ⟨oc24, od24, .func (PySem.W.fnOf "_law_pick" "_law_pick" (defArgs (topS 34)) (defBody (topS 34)) (defScope (topS 34)) .none kV24 dc24 pm24 an24 cd24 ct24), sl24⟩) (c24 : PySem.W.codeIn K cd24 "_law_pick" = true) (k24 : PySem.W.keepIn K (.ref f24) = true)
    {f25 : Addr} {od25 an25 : Option Addr} {sl25 : Array (Option Value)} {oc25 kV25 dc25 pm25 cd25 ct25 : Value} (a25 : PySem.W.nsIn K mainGlobals "_law_distances" = some (some (.ref f25))) (l25 : K.lookup f25 = some ⟨oc25, od25, .func (PySem.W.fnOf "_law_distances" "_law_distances" (defArgs (topS 35)) (defBody (topS 35)) (defScope (topS 35)) .none kV25 dc25 pm25 an25 cd25 ct25), sl25⟩) (c25 : PySem.W.codeIn K cd25 "_law_distances" = true) (k25 : PySem.W.keepIn K (.ref f25) = true)
    {f26 : Addr} {od26 an26 : Option Addr} {sl26 : Array (Option Value)} {oc26 kV26 dc26 pm26 cd26 ct26 : Value} (a26 : PySem.W.nsIn K mainGlobals "_law_subsets" = some (some (.ref f26))) (l26 : K.lookup f26 = some ⟨oc26, od26, .func (PySem.W.fnOf "_law_subsets" "_law_subsets" (defArgs (topS 36)) (defBody (topS 36)) (defScope (topS 36)) .none kV26 dc26 pm26 an26 cd26 ct26), sl26⟩) (c26 : PySem.W.codeIn K cd26 "_law_subsets" = true) (k26 : PySem.W.keepIn K (.ref f26) = true)
    {f27 : Addr} {od27 an27 : Option Addr} {sl27 : Array (Option Value)} {oc27 kV27 dc27 pm27 cd27 ct27 : Value} (a27 : PySem.W.nsIn K mainGlobals "law" = some (some (.ref f27))) (l27 : K.lookup f27 = some ⟨oc27, od27, .func (PySem.W.fnOf "law" "law" (defArgs (topS 37)) (defBody (topS 37)) (defScope (topS 37)) .none kV27 dc27 pm27 an27 cd27 ct27), sl27⟩) (c27 : PySem.W.codeIn K cd27 "law" = true) (k27 : PySem.W.keepIn K (.ref f27) = true)
    (z_abs : PySem.W.nsIn K mainGlobals "abs" = some none)
    (z_all : PySem.W.nsIn K mainGlobals "all" = some none)
    (z_any : PySem.W.nsIn K mainGlobals "any" = some none)
    (z_bool : PySem.W.nsIn K mainGlobals "bool" = some none)
    (z_enumerate : PySem.W.nsIn K mainGlobals "enumerate" = some none)
    (z_int : PySem.W.nsIn K mainGlobals "int" = some none)
    (z_isinstance : PySem.W.nsIn K mainGlobals "isinstance" = some none)
    (z_len : PySem.W.nsIn K mainGlobals "len" = some none)
    (z_list : PySem.W.nsIn K mainGlobals "list" = some none)
    (z_max : PySem.W.nsIn K mainGlobals "max" = some none)
    (z_min : PySem.W.nsIn K mainGlobals "min" = some none)
    (z_range : PySem.W.nsIn K mainGlobals "range" = some none)
    (z_set : PySem.W.nsIn K mainGlobals "set" = some none)
    (z_sorted : PySem.W.nsIn K mainGlobals "sorted" = some none)
    (z_tuple : PySem.W.nsIn K mainGlobals "tuple" = some none)
    (z_zip : PySem.W.nsIn K mainGlobals "zip" = some none)
    {t_MOST_FAR : Tok} (m_MOST_FAR : PySem.W.nsIn K mainGlobals "MOST_FAR" = some (some (.int 1000 t_MOST_FAR)))
    {t_MOST_POINTS : Tok} (m_MOST_POINTS : PySem.W.nsIn K mainGlobals "MOST_POINTS" = some (some (.int 8 t_MOST_POINTS)))
    : ∃ fd : FuncData, (∀ (s : Shared) (v : Value), BindsTo s fd ⟨[v], []⟩ [("script", v)]) ∧ ∀ base : Heap, K.In base → base.Ns mainGlobals mg → FnOk l.prog w K mg base CX0 6 fa fd ["script"] (spLaw K) := by
  have e := hfa.symm.trans (PySem.W.mg_of X G a27)
  cases e
  have F0 := fun_mk (st := topS 4) l0 c0 k0
  have b0 := F0.binds (ps := ["value"]) fun _ _ _ _ _ _ us hl => match us, hl with | [_], _ => rfl
  have F1 := fun_mk (st := topS 8) l1 c1 k1
  have b1 := F1.binds (ps := ["table"]) fun _ _ _ _ _ _ us hl => match us, hl with | [_], _ => rfl
  have F2 := fun_mk (st := topS 9) l2 c2 k2
  have b2 := F2.binds (ps := ["many", "size"]) fun _ _ _ _ _ _ us hl => match us, hl with | [_, _], _ => rfl
  have F3 := fun_mk (st := topS 10) l3 c3 k3
  have b3 := F3.binds (ps := ["table"]) fun _ _ _ _ _ _ us hl => match us, hl with | [_], _ => rfl
  have F4 := fun_mk (st := topS 11) l4 c4 k4
  have b4 := F4.binds (ps := ["table"]) fun _ _ _ _ _ _ us hl => match us, hl with | [_], _ => rfl
  have F5 := fun_mk (st := topS 12) l5 c5 k5
  have b5 := F5.binds (ps := ["table"]) fun _ _ _ _ _ _ us hl => match us, hl with | [_], _ => rfl
  have F6 := fun_mk (st := topS 13) l6 c6 k6
  have b6 := F6.binds (ps := ["table"]) fun _ _ _ _ _ _ us hl => match us, hl with | [_], _ => rfl
  have F7 := fun_mk (st := topS 14) l7 c7 k7
  have b7 := F7.binds (ps := ["table", "center", "size"]) fun _ _ _ _ _ _ us hl => match us, hl with | [_, _, _], _ => rfl
  have F8 := fun_mk (st := topS 16) l8 c8 k8
  have b8 := F8.binds (ps := ["table", "part"]) fun _ _ _ _ _ _ us hl => match us, hl with | [_, _], _ => rfl
  have F9 := fun_mk (st := topS 17) l9 c9 k9
  have b9 := F9.binds (ps := ["table", "part", "other"]) fun _ _ _ _ _ _ us hl => match us, hl with | [_, _, _], _ => rfl
  have F10 := fun_mk (st := topS 18) l10 c10 k10
  have b10 := F10.binds (ps := ["table", "part", "other"]) fun _ _ _ _ _ _ us hl => match us, hl with | [_, _, _], _ => rfl
  have F11 := fun_mk (st := topS 20) l11 c11 k11
  have b11 := F11.binds (ps := ["size"]) fun _ _ _ _ _ _ us hl => match us, hl with | [_], _ => rfl
  have F12 := fun_mk (st := topS 21) l12 c12 k12
  have b12 := F12.binds (ps := ["table", "size"]) fun _ _ _ _ _ _ us hl => match us, hl with | [_, _], _ => rfl
  have F13 := fun_mk (st := topS 22) l13 c13 k13
  have b13 := F13.binds (ps := ["table", "many"]) fun _ _ _ _ _ _ us hl => match us, hl with | [_, _], _ => rfl
  have F14 := fun_mk (st := topS 23) l14 c14 k14
  have b14 := F14.binds (ps := ["table", "many"]) fun _ _ _ _ _ _ us hl => match us, hl with | [_, _], _ => rfl
  have F15 := fun_mk (st := topS 24) l15 c15 k15
  have b15 := F15.binds (ps := ["table", "part", "size"]) fun _ _ _ _ _ _ us hl => match us, hl with | [_, _, _], _ => rfl
  have F16 := fun_mk (st := topS 25) l16 c16 k16
  have b16 := F16.binds (ps := ["table", "size"]) fun _ _ _ _ _ _ us hl => match us, hl with | [_, _], _ => rfl
  have F17 := fun_mk (st := topS 27) l17 c17 k17
  have b17 := F17.binds (ps := ["script"]) fun _ _ _ _ _ _ us hl => match us, hl with | [_], _ => rfl
  have F18 := fun_mk (st := topS 28) l18 c18 k18
  have b18 := F18.binds (ps := ["d", "many"]) fun _ _ _ _ _ _ us hl => match us, hl with | [_, _], _ => rfl
  have F19 := fun_mk (st := topS 29) l19 c19 k19
  have b19 := F19.binds (ps := ["d", "n"]) fun _ _ _ _ _ _ us hl => match us, hl with | [_, _], _ => rfl
  have F20 := fun_mk (st := topS 30) l20 c20 k20
  have b20 := F20.binds (ps := ["d", "n", "more", "top"]) fun _ _ _ _ _ _ us hl => match us, hl with | [_, _, _, _], _ => rfl
  have F21 := fun_mk (st := topS 31) l21 c21 k21
  have b21 := F21.binds (ps := ["joints", "edges"]) fun _ _ _ _ _ _ us hl => match us, hl with | [_, _], _ => rfl
  have F22 := fun_mk (st := topS 32) l22 c22 k22
  have b22 := F22.binds (ps := ["d", "n", "top"]) fun _ _ _ _ _ _ us hl => match us, hl with | [_, _, _], _ => rfl
  have F23 := fun_mk (st := topS 33) l23 c23 k23
  have b23 := F23.binds (ps := ["table"]) fun _ _ _ _ _ _ us hl => match us, hl with | [_], _ => rfl
  have F24 := fun_mk (st := topS 34) l24 c24 k24
  have b24 := F24.binds (ps := ["d", "menu"]) fun _ _ _ _ _ _ us hl => match us, hl with | [_, _], _ => rfl
  have F25 := fun_mk (st := topS 35) l25 c25 k25
  have b25 := F25.binds (ps := ["d", "n"]) fun _ _ _ _ _ _ us hl => match us, hl with | [_, _], _ => rfl
  have F26 := fun_mk (st := topS 36) l26 c26 k26
  have b26 := F26.binds (ps := ["n"]) fun _ _ _ _ _ _ us hl => match us, hl with | [_], _ => rfl
  have F27 := fun_mk (st := topS 37) l27 c27 k27
  exact ⟨PySem.W.fnOf "law" "law" (defArgs (topS 37)) (defBody (topS 37)) (defScope (topS 37)) .none kV27 dc27 pm27 an27 cd27 ct27, fun s v => .of_eq rfl, fun base _ _ => ok_law (K := K) (mg := mg) ⟨f0, _, F0, (PySem.W.mg_of X G a0), b0, f1, _, F1, (PySem.W.mg_of X G a1), b1, f2, _, F2, (PySem.W.mg_of X G a2), b2, f3, _, F3, (PySem.W.mg_of X G a3), b3, f4, _, F4, (PySem.W.mg_of X G a4), b4, f5, _, F5, (PySem.W.mg_of X G a5), b5, f6, _, F6, (PySem.W.mg_of X G a6), b6, f7, _, F7, (PySem.W.mg_of X G a7), b7, f8, _, F8, (PySem.W.mg_of X G a8), b8, f9, _, F9, (PySem.W.mg_of X G a9), b9, f10, _, F10, (PySem.W.mg_of X G a10), b10, f11, _, F11, (PySem.W.mg_of X G a11), b11, f12, _, F12, (PySem.W.mg_of X G a12), b12, f13, _, F13, (PySem.W.mg_of X G a13), b13, f14, _, F14, (PySem.W.mg_of X G a14), b14, f15, _, F15, (PySem.W.mg_of X G a15), b15, f16, _, F16, (PySem.W.mg_of X G a16), b16, f17, _, F17, (PySem.W.mg_of X G a17), b17, f18, _, F18, (PySem.W.mg_of X G a18), b18, f19, _, F19, (PySem.W.mg_of X G a19), b19, f20, _, F20, (PySem.W.mg_of X G a20), b20, f21, _, F21, (PySem.W.mg_of X G a21), b21, f22, _, F22, (PySem.W.mg_of X G a22), b22, f23, _, F23, (PySem.W.mg_of X G a23), b23, f24, _, F24, (PySem.W.mg_of X G a24), b24, f25, _, F25, (PySem.W.mg_of X G a25), b25, f26, _, F26, (PySem.W.mg_of X G a26), b26, (PySem.W.mg_none_of X G z_abs), (PySem.W.mg_none_of X G z_all), (PySem.W.mg_none_of X G z_any), (PySem.W.mg_none_of X G z_bool), (PySem.W.mg_none_of X G z_enumerate), (PySem.W.mg_none_of X G z_int), (PySem.W.mg_none_of X G z_isinstance), (PySem.W.mg_none_of X G z_len), (PySem.W.mg_none_of X G z_list), (PySem.W.mg_none_of X G z_max), (PySem.W.mg_none_of X G z_min), (PySem.W.mg_none_of X G z_range), (PySem.W.mg_none_of X G z_set), (PySem.W.mg_none_of X G z_sorted), (PySem.W.mg_none_of X G z_tuple), (PySem.W.mg_none_of X G z_zip), ⟨_, PySem.W.mg_of X G m_MOST_FAR⟩, ⟨_, PySem.W.mg_of X G m_MOST_POINTS⟩⟩ F27 law_true⟩
end K36
open PySem PySem.W PyProof.Rows
set_option maxHeartbeats 0 in
theorem PySem.Challenge.cw_farandnear_k36_whole_covers_as_distances_holds : PySem.Challenge.rw_farandnear_k36_whole_covers_as_distances.Holds := by
  w_on; o_law; k_head; (case hw => w_witness2)
  k_fill
  refine L2.walk_of (l := PySem.Challenge.rw_farandnear_k36_whole_covers_as_distances) (n := 63) (k := 6) (x := "script") (CX := fun _ => L2.CX0) (sp := fun w => DL.spLaw _) rfl (by decide) rfl ⟨rfl, by decide, by decide⟩ (fun w h Y => PySem.W.kIn_of Y) ?F (fun _ _ a ns hl _ hS => ⟨a, ns, rfl, hS, hl, fun _ => rfl⟩) (fun _ _ _ _ _ h => h)
  case F =>
    intro w mg fa h KX G hmg
    refine' K36.all_mk KX G hmg ?a0 ?l0 ?c0 ?k0 ?a1 ?l1 ?c1 ?k1 ?a2 ?l2 ?c2 ?k2 ?a3 ?l3 ?c3 ?k3 ?a4 ?l4 ?c4 ?k4 ?a5 ?l5 ?c5 ?k5 ?a6 ?l6 ?c6 ?k6 ?a7 ?l7 ?c7 ?k7 ?a8 ?l8 ?c8 ?k8 ?a9 ?l9 ?c9 ?k9 ?a10 ?l10 ?c10 ?k10 ?a11 ?l11 ?c11 ?k11 ?a12 ?l12 ?c12 ?k12 ?a13 ?l13 ?c13 ?k13 ?a14 ?l14 ?c14 ?k14 ?a15 ?l15 ?c15 ?k15 ?a16 ?l16 ?c16 ?k16 ?a17 ?l17 ?c17 ?k17 ?a18 ?l18 ?c18 ?k18 ?a19 ?l19 ?c19 ?k19 ?a20 ?l20 ?c20 ?k20 ?a21 ?l21 ?c21 ?k21 ?a22 ?l22 ?c22 ?k22 ?a23 ?l23 ?c23 ?k23 ?a24 ?l24 ?c24 ?k24 ?a25 ?l25 ?c25 ?k25 ?a26 ?l26 ?c26 ?k26 ?a27 ?l27 ?c27 ?k27 ?z_abs ?z_all ?z_any ?z_bool ?z_enumerate ?z_int ?z_isinstance ?z_len ?z_list ?z_max ?z_min ?z_range ?z_set ?z_sorted ?z_tuple ?z_zip ?m_MOST_FAR ?m_MOST_POINTS
    (case a0 => k_is); (case l0 => k_is); (case c0 => k_is); (case k0 => k_is); (case a1 => k_is); (case l1 => k_is); (case c1 => k_is); (case k1 => k_is); (case a2 => k_is); (case l2 => k_is); (case c2 => k_is); (case k2 => k_is); (case a3 => k_is); (case l3 => k_is); (case c3 => k_is); (case k3 => k_is); (case a4 => k_is); (case l4 => k_is); (case c4 => k_is); (case k4 => k_is); (case a5 => k_is); (case l5 => k_is); (case c5 => k_is); (case k5 => k_is); (case a6 => k_is); (case l6 => k_is); (case c6 => k_is); (case k6 => k_is); (case a7 => k_is); (case l7 => k_is); (case c7 => k_is); (case k7 => k_is); (case a8 => k_is); (case l8 => k_is); (case c8 => k_is); (case k8 => k_is); (case a9 => k_is); (case l9 => k_is); (case c9 => k_is); (case k9 => k_is); (case a10 => k_is); (case l10 => k_is); (case c10 => k_is); (case k10 => k_is); (case a11 => k_is); (case l11 => k_is); (case c11 => k_is); (case k11 => k_is); (case a12 => k_is); (case l12 => k_is); (case c12 => k_is); (case k12 => k_is); (case a13 => k_is); (case l13 => k_is); (case c13 => k_is); (case k13 => k_is); (case a14 => k_is); (case l14 => k_is); (case c14 => k_is); (case k14 => k_is); (case a15 => k_is); (case l15 => k_is); (case c15 => k_is); (case k15 => k_is); (case a16 => k_is); (case l16 => k_is); (case c16 => k_is); (case k16 => k_is); (case a17 => k_is); (case l17 => k_is); (case c17 => k_is); (case k17 => k_is); (case a18 => k_is); (case l18 => k_is); (case c18 => k_is); (case k18 => k_is); (case a19 => k_is); (case l19 => k_is); (case c19 => k_is); (case k19 => k_is); (case a20 => k_is); (case l20 => k_is); (case c20 => k_is); (case k20 => k_is); (case a21 => k_is); (case l21 => k_is); (case c21 => k_is); (case k21 => k_is); (case a22 => k_is); (case l22 => k_is); (case c22 => k_is); (case k22 => k_is); (case a23 => k_is); (case l23 => k_is); (case c23 => k_is); (case k23 => k_is); (case a24 => k_is); (case l24 => k_is); (case c24 => k_is); (case k24 => k_is); (case a25 => k_is); (case l25 => k_is); (case c25 => k_is); (case k25 => k_is); (case a26 => k_is); (case l26 => k_is); (case c26 => k_is); (case k26 => k_is); (case a27 => k_is); (case l27 => k_is); (case c27 => k_is); (case k27 => k_is); (case z_abs => k_is); (case z_all => k_is); (case z_any => k_is); (case z_bool => k_is); (case z_enumerate => k_is); (case z_int => k_is); (case z_isinstance => k_is); (case z_len => k_is); (case z_list => k_is); (case z_max => k_is); (case z_min => k_is); (case z_range => k_is); (case z_set => k_is); (case z_sorted => k_is); (case z_tuple => k_is); (case z_zip => k_is); (case m_MOST_FAR => k_is); (case m_MOST_POINTS => k_is)
