import PyProof.Rows.All
import Wide.All
import OpenK.AllK
import Wide.FinOn
import KE.KStateDown
import HandS.ForMost
import HandS.ForExc
import HandS.HeadHook2
import HandS.TryMany
import HandS.ExcIs
import HandS.TupLe
import HandS.Deep
import HandS.Conv
import HandS.IsInst
import HandS.Flow
import HandS.Zip
import HandS.CallSlots
import HandS.Style
import HandS.TupMul
import HandS.More
import HandS.WideBits
import HandS.SortInts
import HandS.Defaults
import HandS.ExcCtx
import HandS.HotCalls
import HandS.TupAny
import HandS.SortRule
import HandS.Rev
import HandS.MakeKwOnly
import HandS.RevTup
import HandS.TryOnly
import HandS.Head0
import HandS.Head1
import HandS.Head2
import HandS.HeadEnd
import HandS.HeadHook1
import HandS.ExcInit
import KE.SortData
import KE.DataCmp
import HandS.Text
import KE.GoesEnum
import KE.IntBitsLaws
import KE.GoesMore
import KE.GoesZip
import HandS.Flt
import HandS.Set
import HandS.Words
import PySem.Challenge.RW_middlewebs_k34_whole_closure
set_option Elab.async false
set_option linter.all false
set_option maxRecDepth 100000
set_option maxHeartbeats 0
/-! MW, part A: data as a whole (D), the heap of lists that change (DHp), the relation to the hand layer's values, a reading over data (SE). -/
namespace L2.MW
open PySem PySem.Spec PyProof.Rows

/-- a value as a whole: tuples, lists that change no more and objects that change no more are held whole; ref i: the i-th thing of the changing heap -/
inductive D where
  | non | bl (b : Bool) | int (i : Int) | str (x : Str)
  | tup (l : List D) | lst (l : List D) | fz (l : List D) | ref (i : Nat)
  | obj (c : String) (fs : List (Str × D))
  | ty (n : String) | cls (c : String)
  | exn (a : Addr) (c : String) (dd : Addr) (fs : List (Str × D))
  deriving Inhabited

/-- a thing that changes -/
inductive HB where
  | lst (l : List D)
  | ins (c : String) (fs : List (Str × D))
  /-- a dict whose keys are ints; one whose keys are tuples of ints; a set of ints -/
  | dk (l : List (Int × D)) | dt (l : List (List Int × D)) | st (S : Int → Bool) (n : Nat)
abbrev DHp := List HB
abbrev DSt := List (Option D)
abbrev DK := D → DHp → Prop


section
variable (K : PySem.W.Frag)
/-- a tuple, a list that is read at a, not among the changing ones -/
def TupAt (ρ : List Addr) (H : Hp) (a : Addr) (vs : List V) : Prop := a ∉ ρ ∧ H a = some (.tup vs)
def LstAt (ρ : List Addr) (H : Hp) (a : Addr) (vs : List V) : Prop := a ∉ ρ ∧ H a = some (.lst vs)
/-- a list that others made (the script, the module's own) -/
def FzAt (ρ : List Addr) (H : Hp) (a : Addr) (vs : List V) : Prop :=
  (a ∉ ρ ∧ Rd H a (.lst vs)) ∨ ∃ (o : Obj) (its : Array Value) (n : Nat), K.lookup a = some o ∧ o.cls = .type "list" ∧ o.dict = none ∧ o.data = .seq its n ∧ its.size ≤ sizeLine ∧ Vals vs its.toList
theorem TupAt.sq {K : PySem.W.Frag} {ρ : List Addr} {H : Hp} {a : Addr} {vs : List V} (h : TupAt ρ H a vs) : SqT K H a vs := SqT.of h.2
theorem LstAt.sq {K : PySem.W.Frag} {ρ : List Addr} {H : Hp} {a : Addr} {vs : List V} (h : LstAt ρ H a vs) : SqL K H a vs := SqL.of h.2
theorem FzAt.sq {K : PySem.W.Frag} {ρ : List Addr} {H : Hp} {a : Addr} {vs : List V} (h : FzAt K ρ H a vs) : SqL K H a vs := h.imp (fun h => h.2) id

mutual
def DV (ρ : List Addr) (H : Hp) : D → V → Prop
  | .non, v => v = .non
  | .bl b, v => v = .bl b
  | .int i, v => v = .int i
  | .str x, v => v = .str x
  | .tup l, v => ∃ a vs, v = .ref a ∧ TupAt ρ H a vs ∧ DVs ρ H l vs
  | .lst l, v => ∃ a vs, v = .ref a ∧ LstAt ρ H a vs ∧ DVs ρ H l vs
  | .fz l, v => ∃ a vs, v = .ref a ∧ FzAt K ρ H a vs ∧ DVs ρ H l vs
  | .ref i, v => ∃ a, v = .ref a ∧ ρ[i]? = some a
  | .obj c fs, v => ∃ a dx ws, v = .ref a ∧ a ∉ ρ ∧ H a = some (.ins (He.ga K (Str.ofString c)) dx ws) ∧ DFs ρ H fs ws
  | .ty n, v => v = .ty n
  | .cls c, v => v = .ref (He.ga K (Str.ofString c))
  | .exn a _ dd fs, v => v = .ref a ∧ ∃ ws, dd ∉ ρ ∧ H dd = some (.xd ws) ∧ DFs ρ H fs ws
def DVs (ρ : List Addr) (H : Hp) : List D → List V → Prop
  | [], vs => vs = []
  | d :: ds, vs => ∃ v r, vs = v :: r ∧ DV ρ H d v ∧ DVs ρ H ds r
def DFs (ρ : List Addr) (H : Hp) : List (Str × D) → List (Str × V) → Prop
  | [], ws => ws = []
  | p :: ps, ws => ∃ v r, ws = (p.1, v) :: r ∧ DV ρ H p.2 v ∧ DFs ρ H ps r
end
end

/-- the heap went on: what stood apart from the changing things stands; the changing things are those and new ones -/
structure Ext (ρ : List Addr) (H : Hp) (ρ' : List Addr) (H' : Hp) : Prop where
  pre : ∃ t, ρ' = ρ ++ t
  new : ∀ a : Addr, a ∈ ρ' → a ∉ ρ → H a = none
  old : ∀ (a : Addr) (o : HO), a ∉ ρ → H a = some o → H' a = some o
theorem Ext.refl {ρ : List Addr} {H : Hp} : Ext ρ H ρ H := ⟨⟨[], by simp⟩, fun _ h n => absurd h n, fun _ _ _ h => h⟩
theorem Ext.trans {ρ ρ1 ρ2 : List Addr} {H H1 H2 : Hp} (a : Ext ρ H ρ1 H1) (b : Ext ρ1 H1 ρ2 H2) : Ext ρ H ρ2 H2 := by
  obtain ⟨t, e⟩ := a.pre
  obtain ⟨u, e'⟩ := b.pre
  refine ⟨⟨t ++ u, by rw [e', e, List.append_assoc]⟩, fun x hx hn => ?_, fun x o hn h => ?_⟩
  · by_cases h1 : x ∈ ρ1
    · exact a.new x h1 hn
    · have h2 := b.new x hx h1
      cases q : H x with
      | none => rfl
      | some o => rw [a.old x o hn q] at h2; cases h2
  · refine b.old x o (fun h1 => ?_) (a.old x o hn h)
    rw [a.new x h1 hn] at h; cases h
theorem Ext.out {ρ ρ' : List Addr} {H H' : Hp} {a : Addr} {o : HO} (e : Ext ρ H ρ' H') (n : a ∉ ρ) (h : H a = some o) : a ∉ ρ' := fun q => by
  rw [e.new a q n] at h; cases h
theorem Ext.get {ρ ρ' : List Addr} {H H' : Hp} {i : Nat} {a : Addr} (e : Ext ρ H ρ' H') (h : ρ[i]? = some a) : ρ'[i]? = some a := by
  obtain ⟨t, q⟩ := e.pre
  rw [q, List.getElem?_append_left (List.getElem?_eq_some_iff.mp h).1]; exact h
section
variable {K : PySem.W.Frag} {ρ ρ' : List Addr} {H H' : Hp}
theorem Rd.ex {H : Hp} {a : Addr} {u : HO} (h : Rd H a u) : ∃ o, H a = some o := h.elim (fun h => ⟨_, h⟩) fun ⟨o, h⟩ => ⟨_, h⟩
theorem Ext.rd {a : Addr} {u : HO} (e : Ext ρ H ρ' H') (n : a ∉ ρ) (h : Rd H a u) : Rd H' a u := h.imp (fun h => e.old _ _ n h) fun ⟨o, h⟩ => ⟨o, e.old _ _ n h⟩
theorem TupAt.ext {a : Addr} {vs : List V} (e : Ext ρ H ρ' H') (h : TupAt ρ H a vs) : TupAt ρ' H' a vs := ⟨e.out h.1 h.2, e.old _ _ h.1 h.2⟩
theorem LstAt.ext {a : Addr} {vs : List V} (e : Ext ρ H ρ' H') (h : LstAt ρ H a vs) : LstAt ρ' H' a vs := ⟨e.out h.1 h.2, e.old _ _ h.1 h.2⟩
theorem FzAt.ext {a : Addr} {vs : List V} (e : Ext ρ H ρ' H') (h : FzAt K ρ H a vs) : FzAt K ρ' H' a vs :=
  h.imp (fun ⟨n, h⟩ => ⟨let ⟨_, q⟩ := Rd.ex h; e.out n q, e.rd n h⟩) id
mutual
theorem DV.ext (e : Ext ρ H ρ' H') : ∀ (d : D) (v : V), DV K ρ H d v → DV K ρ' H' d v
  | .non, _, h => h
  | .bl _, _, h => h
  | .int _, _, h => h
  | .str _, _, h => h
  | .tup l, _, ⟨a, vs, e1, h1, h2⟩ => ⟨a, vs, e1, h1.ext e, DVs.ext e l vs h2⟩
  | .lst l, _, ⟨a, vs, e1, h1, h2⟩ => ⟨a, vs, e1, h1.ext e, DVs.ext e l vs h2⟩
  | .fz l, _, ⟨a, vs, e1, h1, h2⟩ => ⟨a, vs, e1, h1.ext e, DVs.ext e l vs h2⟩
  | .ref i, _, ⟨a, e1, h1⟩ => ⟨a, e1, e.get h1⟩
  | .obj c fs, _, ⟨a, dx, ws, e1, n, h1, h2⟩ => ⟨a, dx, ws, e1, e.out n h1, e.old _ _ n h1, DFs.ext e fs ws h2⟩
  | .ty _, _, h => h
  | .cls _, _, h => h
  | .exn _ _ _ fs, _, ⟨e1, ws, n, h1, h2⟩ => ⟨e1, ws, e.out n h1, e.old _ _ n h1, DFs.ext e fs ws h2⟩
theorem DVs.ext (e : Ext ρ H ρ' H') : ∀ (ds : List D) (vs : List V), DVs K ρ H ds vs → DVs K ρ' H' ds vs
  | [], _, h => h
  | d :: ds, _, ⟨v, r, e1, h1, h2⟩ => ⟨v, r, e1, DV.ext e d v h1, DVs.ext e ds r h2⟩
theorem DFs.ext (e : Ext ρ H ρ' H') : ∀ (ds : List (Str × D)) (vs : List (Str × V)), DFs K ρ H ds vs → DFs K ρ' H' ds vs
  | [], _, h => h
  | p :: ds, _, ⟨v, r, e1, h1, h2⟩ => ⟨v, r, e1, DV.ext e p.2 v h1, DFs.ext e ds r h2⟩
end
/-! lists of data -/
theorem DVs.length : ∀ {ds : List D} {vs : List V}, DVs K ρ H ds vs → vs.length = ds.length
  | [], _, h => by rw [show _ = [] from h]; rfl
  | d :: ds, _, ⟨v, r, e1, h1, h2⟩ => by rw [e1, List.length_cons, List.length_cons, DVs.length h2]
theorem DVs.get : ∀ {ds : List D} {vs : List V} {i : Nat} {d : D}, DVs K ρ H ds vs → ds[i]? = some d → ∃ v, vs[i]? = some v ∧ DV K ρ H d v
  | [], _, _, _, _, h => by simp at h
  | d :: ds, _, 0, _, ⟨v, r, e1, h1, h2⟩, h => by
    simp at h; subst h; subst e1; exact ⟨v, rfl, h1⟩
  | d :: ds, _, i + 1, x, ⟨v, r, e1, h1, h2⟩, h => by
    subst e1
    obtain ⟨w, q, r'⟩ := DVs.get (i := i) h2 (by simpa using h)
    exact ⟨w, by simpa using q, r'⟩
theorem DVs.append : ∀ {ds es : List D} {vs ws : List V}, DVs K ρ H ds vs → DVs K ρ H es ws → DVs K ρ H (ds ++ es) (vs ++ ws)
  | [], _, _, _, h, q => by rw [show _ = [] from h]; exact q
  | d :: ds, _, _, _, ⟨v, r, e1, h1, h2⟩, q => by subst e1; exact ⟨v, r ++ _, rfl, h1, DVs.append h2 q⟩
theorem DVs.one {d : D} {v : V} (h : DV K ρ H d v) : DVs K ρ H [d] [v] := ⟨v, [], rfl, h, rfl⟩
theorem DVs.take : ∀ {ds : List D} {vs : List V} (n : Nat), DVs K ρ H ds vs → DVs K ρ H (ds.take n) (vs.take n)
  | _, _, 0, _ => rfl
  | [], _, n + 1, h => by rw [show _ = [] from h]; rfl
  | d :: ds, _, n + 1, ⟨v, r, e1, h1, h2⟩ => by subst e1; exact ⟨v, r.take n, rfl, h1, DVs.take n h2⟩
theorem DVs.drop : ∀ {ds : List D} {vs : List V} (n : Nat), DVs K ρ H ds vs → DVs K ρ H (ds.drop n) (vs.drop n)
  | _, _, 0, h => h
  | [], _, n + 1, h => by rw [show _ = [] from h]; rfl
  | d :: ds, _, n + 1, ⟨v, r, e1, h1, h2⟩ => by subst e1; exact DVs.drop n h2
theorem DVs.set {d : D} {v : V} (q : DV K ρ H d v) : ∀ {ds : List D} {vs : List V} (n : Nat), DVs K ρ H ds vs → DVs K ρ H (ds.set n d) (vs.set n v)
  | [], _, n, h => by rw [show _ = [] from h]; rfl
  | e :: ds, _, 0, ⟨w, r, e1, h1, h2⟩ => by subst e1; exact ⟨v, r, rfl, q, h2⟩
  | e :: ds, _, n + 1, ⟨w, r, e1, h1, h2⟩ => by subst e1; exact ⟨w, r.set n v, rfl, h1, DVs.set q n h2⟩
theorem DVs.reverse : ∀ {ds : List D} {vs : List V}, DVs K ρ H ds vs → DVs K ρ H ds.reverse vs.reverse
  | [], _, h => by rw [show _ = [] from h]; rfl
  | d :: ds, _, ⟨v, r, e1, h1, h2⟩ => by subst e1; rw [List.reverse_cons, List.reverse_cons]; exact (DVs.reverse h2).append (.one h1)
theorem DVs.at_ : ∀ {ds : List D} {vs : List V} {i : Nat} {v : V}, DVs K ρ H ds vs → vs[i]? = some v → ∃ d, ds[i]? = some d ∧ DV K ρ H d v := fun {ds vs i v} h e => by
  have hl := h.length
  have hi : i < ds.length := by rw [← hl]; exact (List.getElem?_eq_some_iff.mp e).1
  obtain ⟨w, q, r⟩ := h.get (List.getElem?_eq_getElem hi)
  rw [e] at q; cases q
  exact ⟨_, List.getElem?_eq_getElem hi, r⟩
theorem DVs.ints : ∀ {ns : List Int} {vs : List V}, DVs K ρ H (ns.map D.int) vs → vs = ns.map V.int
  | [], _, h => h
  | n :: ns, _, ⟨v, r, e1, h1, h2⟩ => by rw [e1, show v = .int n from h1, DVs.ints h2]; rfl
theorem DVs.of_ints : ∀ {ns : List Int}, DVs K ρ H (ns.map D.int) (ns.map V.int)
  | [] => rfl
  | n :: ns => ⟨_, _, rfl, rfl, DVs.of_ints⟩
theorem DVs.bls : ∀ {ns : List Bool} {vs : List V}, DVs K ρ H (ns.map D.bl) vs → vs = ns.map V.bl
  | [], _, h => h
  | n :: ns, _, ⟨v, r, e1, h1, h2⟩ => by rw [e1, show v = .bl n from h1, DVs.bls h2]; rfl
theorem DVs.strs : ∀ {ns : List Str} {vs : List V}, DVs K ρ H (ns.map D.str) vs → vs = ns.map V.str
  | [], _, h => h
  | n :: ns, _, ⟨v, r, e1, h1, h2⟩ => by rw [e1, show v = .str n from h1, DVs.strs h2]; rfl
theorem DVs.of_strs : ∀ {ns : List Str}, DVs K ρ H (ns.map D.str) (ns.map V.str)
  | [] => rfl
  | n :: ns => ⟨_, _, rfl, rfl, DVs.of_strs⟩
theorem DFs.lookup : ∀ {fs : List (Str × D)} {ws : List (Str × V)} {f : Str} {d : D}, DFs K ρ H fs ws → fs.lookup f = some d → ∃ v, ws.lookup f = some v ∧ DV K ρ H d v
  | [], _, _, _, _, h => by simp at h
  | (g, x) :: fs, _, f, d, ⟨v, r, e1, h1, h2⟩, h => by
    subst e1
    rw [List.lookup_cons] at h ⊢
    cases q : f == g with
    | true => rw [q] at h; cases h; exact ⟨v, rfl, h1⟩
    | false => rw [q] at h; exact DFs.lookup h2 h
theorem DFs.lookup_none : ∀ {fs : List (Str × D)} {ws : List (Str × V)} {f : Str}, DFs K ρ H fs ws → fs.lookup f = none → ws.lookup f = none
  | [], _, _, h, _ => by rw [show _ = [] from h]; rfl
  | (g, x) :: fs, _, f, ⟨v, r, e1, h1, h2⟩, h => by
    subst e1
    rw [List.lookup_cons] at h ⊢
    cases q : f == g with
    | true => rw [q] at h; cases h
    | false => rw [q] at h; exact DFs.lookup_none h2 h
theorem DFs.length : ∀ {fs : List (Str × D)} {ws : List (Str × V)}, DFs K ρ H fs ws → ws.length = fs.length
  | [], _, h => by rw [show _ = [] from h]; rfl
  | p :: fs, _, ⟨v, r, e1, h1, h2⟩ => by rw [e1, List.length_cons, List.length_cons, DFs.length h2]
end

/-- the changing heap stands at ρ -/
def HbAt (K : PySem.W.Frag) (ρ : List Addr) (H : Hp) (a : Addr) : HB → Prop
  | .lst l => ∃ vs, H a = some (.lst vs) ∧ DVs K ρ H l vs
  | .ins c fs => ∃ dx ws, H a = some (.ins (He.ga K (Str.ofString c)) dx ws) ∧ DFs K ρ H fs ws
  | .dk l => ∃ vs, H a = some (.dK ((l.map fun p => (Sum.inl p.1 : Key)).zip vs)) ∧ DVs K ρ H (l.map (·.2)) vs
  | .dt l => ∃ vs, H a = some (.dT ((l.map fun p => p.1.map (Sum.inl : Int → Key)).zip vs)) ∧ DVs K ρ H (l.map (·.2)) vs
  | .st S n => H a = some (.set S n)
structure HR (K : PySem.W.Frag) (ρ : List Addr) (h : DHp) (H : Hp) : Prop where
  len : ρ.length = h.length
  nd : ρ.Nodup
  at_ : ∀ (i : Nat) (b : HB) (a : Addr), h[i]? = some b → ρ[i]? = some a → HbAt K ρ H a b
theorem HR.get {K : PySem.W.Frag} {ρ : List Addr} {h : DHp} {H : Hp} {i : Nat} {b : HB} (r : HR K ρ h H) (e : h[i]? = some b) : ∃ a, ρ[i]? = some a ∧ HbAt K ρ H a b := by
  have hi : i < ρ.length := by rw [r.len]; exact (List.getElem?_eq_some_iff.mp e).1
  exact ⟨_, List.getElem?_eq_getElem hi, r.at_ _ _ _ e (List.getElem?_eq_getElem hi)⟩
theorem HR.ex {K : PySem.W.Frag} {ρ : List Addr} {h : DHp} {H : Hp} {a : Addr} (r : HR K ρ h H) (e : a ∈ ρ) : ∃ o, H a = some o := by
  obtain ⟨i, hi, rfl⟩ := List.getElem_of_mem e
  have h2 : i < h.length := by rw [← r.len]; exact hi
  have q := r.at_ i _ _ (List.getElem?_eq_getElem h2) (List.getElem?_eq_getElem hi)
  revert q
  cases h[i] with
  | lst l => rintro ⟨vs, q, _⟩; exact ⟨_, q⟩
  | ins c fs => rintro ⟨dx, ws, q, _⟩; exact ⟨_, q⟩
  | dk l => rintro ⟨vs, q, _⟩; exact ⟨_, q⟩
  | dt l => rintro ⟨vs, q, _⟩; exact ⟨_, q⟩
  | st S n => intro q; exact ⟨_, q⟩

/-- the slots -/
structure SR (K : PySem.W.Frag) (ρ : List Addr) (H : Hp) (σd : DSt) (σ : St) : Prop where
  len : σd.length = σ.length
  at_ : ∀ (i : Nat) (d : D), σd[i]? = some (some d) → ∃ v, σ[i]? = some (some v) ∧ DV K ρ H d v
theorem SR.ext {K : PySem.W.Frag} {ρ ρ' : List Addr} {H H' : Hp} {σd : DSt} {σ : St} (e : Ext ρ H ρ' H') (r : SR K ρ H σd σ) : SR K ρ' H' σd σ :=
  ⟨r.len, fun i d h => let ⟨v, q, s⟩ := r.at_ i d h; ⟨v, q, s.ext e⟩⟩
theorem SR.set {K : PySem.W.Frag} {ρ : List Addr} {H : Hp} {σd : DSt} {σ : St} {i : Nat} {d : D} {v : V} (r : SR K ρ H σd σ) (q : DV K ρ H d v) : SR K ρ H (σd.set i (some d)) (σ.set i (some v)) := by
  refine ⟨by rw [List.length_set, List.length_set]; exact r.len, fun j x h => ?_⟩
  by_cases e : i = j
  · subst e
    have hi : i < σd.length := by
      have := (List.getElem?_eq_some_iff.mp h).1; rwa [List.length_set] at this
    rw [List.getElem?_set_self hi] at h
    cases h
    exact ⟨v, by rw [List.getElem?_set_self (by rw [← r.len]; exact hi)], q⟩
  · rw [List.getElem?_set_ne e] at h ⊢
    exact r.at_ j x h

/-- an exception that was made -/
structure Exc where
  cls : String
  fs : List (Str × D)
abbrev DX := Exc → DHp → Prop
def ExcAt (K : PySem.W.Frag) (ρ : List Addr) (H : Hp) (x : Exc) (cls : Value) (d : Option Addr) : Prop :=
  cls = .ref (He.ga K (Str.ofString x.cls)) ∧ ∃ dd ws, d = some dd ∧ dd ∉ ρ ∧ H dd = some (.xd ws) ∧ DFs K ρ H x.fs ws
abbrev DE := DSt → DHp → DX → DK → Prop
abbrev DT := DSt → DHp → DX → (Bool → DHp → Prop) → Prop
abbrev DA := DSt → DHp → DX → (List D → DHp → Prop) → Prop
/-- what is wanted of exceptions, as the layer's wish -/
def XW (K : PySem.W.Frag) (W : WX) (ρ : List Addr) (H : Hp) (σd : DSt) (σ : St) (Xd : DX) : Prop :=
  ∀ ρ' x h' cls d H', Ext ρ H ρ' H' → HR K ρ' h' H' → SR K ρ' H' σd σ → ExcAt K ρ' H' x cls d → Xd x h' → W cls d σ H'
theorem XW.ext {K : PySem.W.Frag} {W : WX} {ρ ρ' : List Addr} {H H' : Hp} {σd : DSt} {σ : St} {Xd : DX} (k : XW K W ρ H σd σ Xd) (e : Ext ρ H ρ' H') : XW K W ρ' H' σd σ Xd :=
  fun ρ2 x h2 cls d H2 e2 hr sr ea w => k ρ2 x h2 cls d H2 (e.trans e2) hr sr ea w
/-- the reading of an expression over data, as the layer's reading -/
def lE (K : PySem.W.Frag) (W : WX) (t : DE) : TE := fun σ H Q => ∃ ρ σd h Xd Qd, HR K ρ h H ∧ SR K ρ H σd σ ∧ t σd h Xd Qd ∧ XW K W ρ H σd σ Xd ∧
  ∀ ρ' d h' v H', Ext ρ H ρ' H' → HR K ρ' h' H' → DV K ρ' H' d v → Qd d h' → Q v H'
def lT (K : PySem.W.Frag) (W : WX) (t : DT) : TT := fun σ H Q => ∃ ρ σd h Xd Qd, HR K ρ h H ∧ SR K ρ H σd σ ∧ t σd h Xd Qd ∧ XW K W ρ H σd σ Xd ∧
  ∀ ρ' b h' H', Ext ρ H ρ' H' → HR K ρ' h' H' → Qd b h' → Q b H'
def lA (K : PySem.W.Frag) (W : WX) (t : DA) : TA := fun σ H Q => ∃ ρ σd h Xd Qd, HR K ρ h H ∧ SR K ρ H σd σ ∧ t σd h Xd Qd ∧ XW K W ρ H σd σ Xd ∧
  ∀ ρ' ds h' vs H', Ext ρ H ρ' H' → HR K ρ' h' H' → DVs K ρ' H' ds vs → Qd ds h' → Q vs H'
abbrev SE (X : Cx) (W : WX) (e : Expr) (t : DE) : Prop := PE X e (lE X.K W t)
abbrev ST (X : Cx) (W : WX) (e : Expr) (t : DT) : Prop := PT X e (lT X.K W t)
abbrev SW (X : Cx) (W : WX) (e : Expr) (t : DT) : Prop := PW X e (lT X.K W t)
abbrev SA (X : Cx) (W : WX) (es : List Expr) (t : DA) : Prop := PA X es (lA X.K W t)
theorem PE.imp {X : Cx} {e : Expr} {t t' : TE} (h : PE X e t) (i : ∀ σ H Q, t' σ H Q → t σ H Q) : PE X e t' := ⟨fun pins s σ H Q I w => h.run pins s σ H Q I (i σ H Q w)⟩
theorem PT.imp {X : Cx} {e : Expr} {t t' : TT} (h : PT X e t) (i : ∀ σ H Q, t' σ H Q → t σ H Q) : PT X e t' := ⟨fun pins s σ H Q I w => h.run pins s σ H Q I (i σ H Q w)⟩
theorem PW.imp {X : Cx} {e : Expr} {t t' : TT} (h : PW X e t) (i : ∀ σ H Q, t' σ H Q → t σ H Q) : PW X e t' := ⟨fun wh pins s σ H Q I w => h.run wh pins s σ H Q I (i σ H Q w)⟩
theorem PA.imp {X : Cx} {e : List Expr} {t t' : TA} (h : PA X e t) (i : ∀ σ H Q, t' σ H Q → t σ H Q) : PA X e t' := ⟨fun pos pins s σ H Q I w => h.run pos pins s σ H Q I (i σ H Q w)⟩
theorem PS.imp {X : Cx} {e : Stmt} {t t' : TS} (h : PS X e t) (i : ∀ D σ H, t' D σ H → t D σ H) : PS X e t' := ⟨fun pins s σ H D I w => h.run pins s σ H D I (i D σ H w)⟩
theorem PSs.imp {X : Cx} {e : List Stmt} {t t' : TS} (h : PSs X e t) (i : ∀ D σ H, t' D σ H → t D σ H) : PSs X e t' := ⟨fun pins s σ H D I w => h.run pins s σ H D I (i D σ H w)⟩
/-- continue: from lE's parts -/
theorem lE.go {K : PySem.W.Frag} {W : WX} {ρ : List Addr} {σd : DSt} {h : DHp} {H : Hp} {σ : St} {t : DE} {Xd : DX} {Qd : DK} {Q : VK} (hr : HR K ρ h H) (sr : SR K ρ H σd σ) (w : t σd h Xd Qd) (kx : XW K W ρ H σd σ Xd)
    (k : ∀ ρ' d h' v H', Ext ρ H ρ' H' → HR K ρ' h' H' → SR K ρ' H' σd σ → XW K W ρ' H' σd σ Xd → DV K ρ' H' d v → Qd d h' → Q v H') : lE K W t σ H Q :=
  ⟨ρ, σd, h, Xd, Qd, hr, sr, w, kx, fun ρ' d h' v H' e hr' dv q => k ρ' d h' v H' e hr' (sr.ext e) (kx.ext e) dv q⟩
theorem lT.go {K : PySem.W.Frag} {W : WX} {ρ : List Addr} {σd : DSt} {h : DHp} {H : Hp} {σ : St} {t : DT} {Xd : DX} {Qd : Bool → DHp → Prop} {Q : Bool → Hp → Prop} (hr : HR K ρ h H) (sr : SR K ρ H σd σ) (w : t σd h Xd Qd) (kx : XW K W ρ H σd σ Xd)
    (k : ∀ ρ' b h' H', Ext ρ H ρ' H' → HR K ρ' h' H' → SR K ρ' H' σd σ → XW K W ρ' H' σd σ Xd → Qd b h' → Q b H') : lT K W t σ H Q :=
  ⟨ρ, σd, h, Xd, Qd, hr, sr, w, kx, fun ρ' b h' H' e hr' q => k ρ' b h' H' e hr' (sr.ext e) (kx.ext e) q⟩
theorem lA.go {K : PySem.W.Frag} {W : WX} {ρ : List Addr} {σd : DSt} {h : DHp} {H : Hp} {σ : St} {t : DA} {Xd : DX} {Qd : List D → DHp → Prop} {Q : List V → Hp → Prop} (hr : HR K ρ h H) (sr : SR K ρ H σd σ) (w : t σd h Xd Qd) (kx : XW K W ρ H σd σ Xd)
    (k : ∀ ρ' ds h' vs H', Ext ρ H ρ' H' → HR K ρ' h' H' → SR K ρ' H' σd σ → XW K W ρ' H' σd σ Xd → DVs K ρ' H' ds vs → Qd ds h' → Q vs H') : lA K W t σ H Q :=
  ⟨ρ, σd, h, Xd, Qd, hr, sr, w, kx, fun ρ' ds h' vs H' e hr' dv q => k ρ' ds h' vs H' e hr' (sr.ext e) (kx.ext e) dv q⟩

/-! ### names, constants -/
section
variable {X : Cx} {W : WX}
def dVar (i : Nat) : DE := fun σ h _ Q => ∃ d, σ[i]? = some (some d) ∧ Q d h
def dC (d : D) : DE := fun _ h _ Q => Q d h
theorem se_var (i : Nat) {x : Str} {pos : Pos} (hN : X.N[i]? = some x := by rfl) (hv : Vis X.env.scope x := by first | exact Or.inl rfl | exact Or.inr (Or.inl rfl) | exact Or.inr (Or.inr rfl)) (hd : (x == ("__debug__" : Str)) = false := by decide)
    (hcd : (x == ("__classdict__" : Str)) = false := by decide) : SE X W (.Name x pos) (dVar i) := by
  refine PE.imp (pe_var hN hv hd hcd) fun σ H Q => ?_
  rintro ⟨ρ, σd, h, Xd, Qd, hr, sr, ⟨d, e, q⟩, _, k⟩
  obtain ⟨v, e', dv⟩ := sr.at_ i d e
  exact ⟨v, e', k ρ d h v H .refl hr dv q⟩
/-- a constant's value -/
theorem se_c {e : Expr} {d : D} {v : V} (he : PE X e (tC v)) (dv : ∀ ρ H, DV X.K ρ H d v) : SE X W e (dC d) := by
  refine PE.imp he fun σ H Q => ?_
  rintro ⟨ρ, σd, h, Xd, Qd, hr, sr, q, _, k⟩
  exact k ρ d h v H .refl hr (dv ρ H) q
theorem se_int {i : Int} {j : Nat} {pos : Pos} : SE X W (.Constant (.int i) j pos) (dC (.int i)) := se_c pe_int fun _ _ => rfl
theorem se_bl {b : Bool} {j : Nat} {pos : Pos} : SE X W (.Constant (.bool b) j pos) (dC (.bl b)) := se_c pe_bl fun _ _ => rfl
theorem se_non {j : Nat} {pos : Pos} : SE X W (.Constant .none j pos) (dC .non) := se_c pe_non fun _ _ => rfl
theorem se_str {x : Str} {j : Nat} {pos : Pos} : SE X W (.Constant (.str x) j pos) (dC (.str x)) := se_c pe_str fun _ _ => rfl
/-- a module's number -/
theorem se_gint {x : Str} {i : Int} {pos : Pos} (hg : Gl X x) (hm : ∃ t, X.mg x = some (.int i t)) (hd : (x == ("__debug__" : Str)) = false := by decide) : SE X W (.Name x pos) (dC (.int i)) := by
  obtain ⟨t, hm⟩ := hm
  exact se_c (pe_glob (v := .int i) hg hm ⟨_, rfl⟩ hd) fun _ _ => rfl
theorem se_gstr {x z : Str} {pos : Pos} (hg : Gl X x) (hm : ∃ t, X.mg x = some (.str z t)) (hd : (x == ("__debug__" : Str)) = false := by decide) : SE X W (.Name x pos) (dC (.str z)) := by
  obtain ⟨t, hm⟩ := hm
  exact se_c (pe_glob (v := .str z) hg hm ⟨_, rfl⟩ hd) fun _ _ => rfl
end
end L2.MW

/-! MW, part B: operators, comparisons, tests, displays, subscripts, fields. -/
namespace L2.MW
open PySem PySem.Spec PyProof.Rows

/-! ### a new thing -/
section
variable {K : PySem.W.Frag} {ρ : List Addr} {h : DHp} {H : Hp} {p : Addr} {o : HO}
theorem HR.out (hr : HR K ρ h H) (np : H p = none) : p ∉ ρ := fun hp => by
  obtain ⟨o, e⟩ := hr.ex hp
  rw [np] at e; cases e
theorem Ext.new1 (np : H p = none) : Ext ρ H ρ (upd H p o) :=
  ⟨⟨[], by simp⟩, fun _ h n => absurd h n, fun a u _ e => by rw [upd_ne (ne_of_none e np)]; exact e⟩
theorem HbAt.ext {ρ' : List Addr} {H' : Hp} {a : Addr} {b : HB} (e : Ext ρ H ρ' H') (ea : H' a = H a) (x : HbAt K ρ H a b) : HbAt K ρ' H' a b := by
  cases b with
  | lst l => obtain ⟨vs, e1, d⟩ := x; exact ⟨vs, ea.trans e1, DVs.ext e _ _ d⟩
  | ins c fs => obtain ⟨dx, ws, e1, d⟩ := x; exact ⟨dx, ws, ea.trans e1, DFs.ext e _ _ d⟩
  | dk l => obtain ⟨vs, e1, d⟩ := x; exact ⟨vs, ea.trans e1, DVs.ext e _ _ d⟩
  | dt l => obtain ⟨vs, e1, d⟩ := x; exact ⟨vs, ea.trans e1, DVs.ext e _ _ d⟩
  | st S n => exact ea.trans x
theorem HR.new1 (hr : HR K ρ h H) (np : H p = none) : HR K ρ h (upd H p o) := by
  refine ⟨hr.len, hr.nd, fun i b a e1 e2 => (hr.at_ i b a e1 e2).ext (Ext.new1 np) (upd_ne fun z => ?_)⟩
  rw [z] at e2
  exact hr.out np (List.mem_of_getElem? e2)
theorem Ext.push (np : H p = none) : Ext ρ H (ρ ++ [p]) (upd H p o) := by
  refine ⟨⟨[p], rfl⟩, fun a ha hn => ?_, fun a u _ e => by rw [upd_ne (ne_of_none e np)]; exact e⟩
  rcases List.mem_append.mp ha with z | z
  · exact absurd z hn
  · rw [List.mem_singleton.mp z]; exact np
theorem HR.push {b : HB} (hr : HR K ρ h H) (np : H p = none) (hb : HbAt K (ρ ++ [p]) (upd H p o) p b) : HR K (ρ ++ [p]) (h ++ [b]) (upd H p o) := by
  refine ⟨by rw [List.length_append, List.length_append, hr.len]; rfl, ?_, fun i c a e1 e2 => ?_⟩
  · rw [List.nodup_append]
    refine ⟨hr.nd, by simp, fun a ha b hb => ?_⟩
    rw [List.mem_singleton.mp hb]
    intro z; subst z; exact hr.out np ha
  · by_cases hi : i < h.length
    · rw [List.getElem?_append_left hi] at e1
      rw [List.getElem?_append_left (by rw [hr.len]; exact hi)] at e2
      refine (hr.at_ i c a e1 e2).ext (Ext.push np) (upd_ne fun z => ?_)
      rw [z] at e2
      exact hr.out np (List.mem_of_getElem? e2)
    · have hi' : h.length ≤ i := Nat.le_of_not_lt hi
      rw [List.getElem?_append_right hi'] at e1
      rw [List.getElem?_append_right (by rw [hr.len]; exact hi'), hr.len] at e2
      have z : i - h.length = 0 := by
        have := (List.getElem?_eq_some_iff.mp e1).1
        simp at this; omega
      rw [z] at e1 e2
      cases e1; cases e2
      exact hb
theorem Ext.write (hp : p ∈ ρ) : Ext ρ H ρ (upd H p o) :=
  ⟨⟨[], by simp⟩, fun _ h n => absurd h n, fun a u n e => by rw [upd_ne (fun z => n (by rw [z]; exact hp))]; exact e⟩
theorem HR.write {i : Nat} {b : HB} (hr : HR K ρ h H) (hi : ρ[i]? = some p) (hb : HbAt K ρ (upd H p o) p b) : HR K ρ (h.set i b) (upd H p o) := by
  have hp : p ∈ ρ := List.mem_of_getElem? hi
  refine ⟨by rw [List.length_set]; exact hr.len, hr.nd, fun j c a e1 e2 => ?_⟩
  by_cases hj : i = j
  · subst hj
    have hl : i < h.length := by have := (List.getElem?_eq_some_iff.mp e1).1; rwa [List.length_set] at this
    rw [List.getElem?_set_self hl] at e1
    rw [hi] at e2
    cases e1; cases e2
    exact hb
  · rw [List.getElem?_set_ne hj] at e1
    refine (hr.at_ j c a e1 e2).ext (Ext.write hp) (upd_ne fun z => ?_)
    subst z
    obtain ⟨h1, q1⟩ := List.getElem?_eq_some_iff.mp hi
    obtain ⟨h2, q2⟩ := List.getElem?_eq_some_iff.mp e2
    exact hj ((List.getElem_inj hr.nd).mp (q1.trans q2.symm))
theorem TupAt.new {vs : List V} (hr : HR K ρ h H) (np : H p = none) : TupAt ρ (upd H p (.tup vs)) p vs := ⟨hr.out np, upd_same⟩
theorem LstAt.new {vs : List V} (hr : HR K ρ h H) (np : H p = none) : LstAt ρ (upd H p (.lst vs)) p vs := ⟨hr.out np, upd_same⟩
theorem DV.tupNew {ds : List D} {vs : List V} (hr : HR K ρ h H) (np : H p = none) (d : DVs K ρ H ds vs) : DV K ρ (upd H p (.tup vs)) (.tup ds) (.ref p) := ⟨p, vs, rfl, .new hr np, DVs.ext (Ext.new1 np) _ _ d⟩
theorem DV.lstNew {ds : List D} {vs : List V} (hr : HR K ρ h H) (np : H p = none) (d : DVs K ρ H ds vs) : DV K ρ (upd H p (.lst vs)) (.lst ds) (.ref p) := ⟨p, vs, rfl, .new hr np, DVs.ext (Ext.new1 np) _ _ d⟩
end

/-! ### lists as they are read -/
/-- the items of a list (fixed or changing) -/
def asL (h : DHp) : D → Option (List D)
  | .lst l => some l
  | .fz l => some l
  | .ref i => (match h[i]? with | some (.lst l) => some l | _ => none)
  | _ => none
/-- .. not of others' making -/
def asX (h : DHp) : D → Option (List D)
  | .lst l => some l
  | .ref i => (match h[i]? with | some (.lst l) => some l | _ => none)
  | _ => none
section
variable {K : PySem.W.Frag} {ρ : List Addr} {h : DHp} {H : Hp}
theorem asX_at {d : D} {v : V} {l : List D} (hr : HR K ρ h H) (dv : DV K ρ H d v) (e : asX h d = some l) : ∃ a vs, v = .ref a ∧ H a = some (.lst vs) ∧ DVs K ρ H l vs := by
  cases d with
  | lst l' => cases e; obtain ⟨a, vs, e1, h1, h2⟩ := dv; exact ⟨a, vs, e1, h1.2, h2⟩
  | ref i =>
    obtain ⟨a, e1, h1⟩ := dv
    have e' : (match h[i]? with | some (.lst l) => some l | _ => none) = some l := e
    cases q : h[i]? with
    | none => rw [q] at e'; cases e'
    | some b =>
      rw [q] at e'
      cases b with
      | lst l' => cases e'; obtain ⟨vs, h2, h3⟩ := hr.at_ i _ a q h1; exact ⟨a, vs, e1, h2, h3⟩
      | _ => cases e'
  | _ => cases e
theorem asL_at {d : D} {v : V} {l : List D} (hr : HR K ρ h H) (dv : DV K ρ H d v) (e : asL h d = some l) : ∃ a vs, v = .ref a ∧ SqL K H a vs ∧ DVs K ρ H l vs := by
  cases d with
  | fz l' => cases e; obtain ⟨a, vs, e1, h1, h2⟩ := dv; exact ⟨a, vs, e1, h1.sq, h2⟩
  | lst l' => obtain ⟨a, vs, e1, h1, h2⟩ := asX_at hr dv e; exact ⟨a, vs, e1, .of h1, h2⟩
  | ref i => obtain ⟨a, vs, e1, h1, h2⟩ := asX_at hr dv e; exact ⟨a, vs, e1, .of h1, h2⟩
  | _ => cases e
end
/-- .. of a tuple or a list -/
def asS (h : DHp) : D → Option (List D)
  | .tup l => some l
  | d => asL h d
theorem asS_at {K : PySem.W.Frag} {ρ : List Addr} {h : DHp} {H : Hp} {d : D} {v : V} {l : List D} (hr : HR K ρ h H) (dv : DV K ρ H d v) (e : asS h d = some l) : ∃ a vs, v = .ref a ∧ (SqL K H a vs ∨ SqT K H a vs) ∧ DVs K ρ H l vs := by
  cases d with
  | tup l' => cases e; obtain ⟨a, vs, e1, h1, h2⟩ := dv; exact ⟨a, vs, e1, .inr h1.sq, h2⟩
  | lst l' => obtain ⟨a, vs, e1, h1, h2⟩ := asL_at hr dv e; exact ⟨a, vs, e1, .inl h1, h2⟩
  | fz l' => obtain ⟨a, vs, e1, h1, h2⟩ := asL_at hr dv e; exact ⟨a, vs, e1, .inl h1, h2⟩
  | ref i => obtain ⟨a, vs, e1, h1, h2⟩ := asL_at hr dv e; exact ⟨a, vs, e1, .inl h1, h2⟩
  | _ => cases e

/-! ### operators -/
abbrev D2 := D → D → DHp → DK → Prop
def L2ok (K : PySem.W.Frag) (op : D2) (r : R2) : Prop := ∀ ρ h H x y vx vy Qd Q, HR K ρ h H → DV K ρ H x vx → DV K ρ H y vy → op x y h Qd →
  (∀ ρ' d h' v H', Ext ρ H ρ' H' → HR K ρ' h' H' → DV K ρ' H' d v → Qd d h' → Q v H') → r vx vy H Q
def dOp (op : D2) (da db : DE) : DE := fun σ h X Q => da σ h X fun x h1 => db σ h1 X fun y h2 => op x y h2 Q
section
variable {X : Cx} {W : WX} {a b c : Expr} {da db dc : DE} {pos : Pos} {op : D2} {r : R2}
/-- two expressions, then by values -/
theorem two {Q : VK} {R : V → V → Hp → Prop} (L : L2ok X.K op r) {σ : St} {H : Hp} (w : lE X.K W (dOp op da db) σ H Q) (hR : ∀ x y H, r x y H Q → R x y H) : lE X.K W da σ H fun x H1 => lE X.K W db σ H1 fun y H2 => R x y H2 := by
  obtain ⟨ρ, σd, h, Xd, Qd, hr, sr, w, kx, k⟩ := w
  refine lE.go hr sr w kx fun ρ1 d1 h1 v1 H1 e1 hr1 sr1 kx1 dv1 w1 => lE.go hr1 sr1 w1 kx1 fun ρ2 d2 h2 v2 H2 e2 hr2 sr2 kx2 dv2 w2 => hR _ _ _ ?_
  exact L ρ2 h2 H2 d1 d2 v1 v2 Qd Q hr2 (dv1.ext e2) dv2 w2 fun ρ' d h' v H' e => k ρ' d h' v H' ((e1.trans e2).trans e)
theorem se_op {o : Operator} (ho : OpR X (binaryOp o) r) (L : L2ok X.K op r) (ha : SE X W a da) (hb : SE X W b db) : SE X W (.BinOp a o b pos) (dOp op da db) :=
  PE.imp (pe_op ho ha hb) fun σ H Q w => two L w fun _ _ _ q => q
theorem se_cmp {o : CmpOp} (ho : OpR X (compareOp o) r) (L : L2ok X.K op r) (ha : SE X W a da) (hb : SE X W b db) (hm : behindInMarks o b = false := by first | exact nomark _ | rfl) : SE X W (.Compare a [o] [b] pos) (dOp op da db) :=
  PE.imp (pe_cmpR ho ha hb hm) fun σ H Q w => two L w fun _ _ _ q => q
/-- a value that is True or False, as a test -/
def dTst (da : DE) : DT := fun σ h X Q => da σ h X fun d h' => ∃ b, d = .bl b ∧ Q b h'
theorem dTst_go {K : PySem.W.Frag} {σ : St} {H : Hp} {Q : Bool → Hp → Prop} (w : lT K W (dTst da) σ H Q) : lE K W da σ H fun x H' => ∃ k, x = .bl k ∧ Q k H' := by
  obtain ⟨ρ, σd, h, Xd, Qd, hr, sr, w, kx, k⟩ := w
  refine ⟨ρ, σd, h, Xd, _, hr, sr, w, kx, fun ρ' d h' v H' e hr' dv q => ?_⟩
  obtain ⟨b, rfl, q⟩ := q
  exact ⟨b, dv, k ρ' b h' H' e hr' q⟩
theorem st_cmp {o : CmpOp} (ho : OpR X (compareOp o) r) (L : L2ok X.K op r) (ha : SE X W a da) (hb : SE X W b db) (hm : behindInMarks o b = false := by first | exact nomark _ | rfl) : ST X W (.Compare a [o] [b] pos) (dTst (dOp op da db)) :=
  PT.imp (pt_cmpR ho ha hb hm) fun σ H Q w => two L (dTst_go w) fun _ _ _ q => q

/-! the truth of a value -/
def truD (h : DHp) : D → Option Bool
  | .non => some false
  | .bl b => some b
  | .int i => some (i != 0)
  | .str x => if x.length ≤ sizeLine then some ((x.length : Int) != 0) else none
  | d => (asS h d).map fun l => !l.isEmpty
def dTru (da : DE) : DT := fun σ h X Q => da σ h X fun d h' => ∃ b, truD h' d = some b ∧ Q b h'
theorem isEmpty_len {α β : Type} {xs : List α} {ys : List β} (h : xs.length = ys.length) : xs.isEmpty = ys.isEmpty := by
  cases xs <;> cases ys <;> first | rfl | cases h
theorem tru_at {K : PySem.W.Frag} {ρ : List Addr} {h : DHp} {H : Hp} {d : D} {v : V} {b : Bool} (hr : HR K ρ h H) (dv : DV K ρ H d v) (e : truD h d = some b) : TruV K v H b := by
  have sq : ∀ d, DV K ρ H d v → (asS h d).map (fun l => !l.isEmpty) = some b → TruV K v H b := fun d dv e => by
    obtain ⟨l, e1, e2⟩ := Option.map_eq_some_iff.mp e
    obtain ⟨a, vs, rfl, hq, ds⟩ := asS_at hr dv e1
    have z : b = !vs.isEmpty := by rw [← e2, isEmpty_len ds.length]
    rcases hq with hq | hq
    · exact .inl ⟨vs, hq, z⟩
    · exact .inr (.inl ⟨vs, hq, z⟩)
  cases d with
  | non => have z : v = .non := dv; subst z; cases e; exact rfl
  | bl c => have z : v = .bl c := dv; subst z; cases e; exact rfl
  | int i => have z : v = .int i := dv; subst z; cases e; exact rfl
  | str x =>
    rw [show v = .str x from dv]
    have e' : (if x.length ≤ sizeLine then some ((x.length : Int) != 0) else none) = some b := e
    by_cases hx : x.length ≤ sizeLine
    · rw [if_pos hx] at e'; cases e'; exact ⟨hx, rfl⟩
    · rw [if_neg hx] at e'; cases e'
  | tup l => exact sq _ dv e
  | lst l => exact sq _ dv e
  | fz l => exact sq _ dv e
  | ref i => exact sq _ dv e
  | obj _ _ => cases e
  | ty _ => cases e
  | cls _ => cases e
  | exn _ _ _ _ => cases e
theorem st_tru (ha : SE X W a da) (he : ∀ whole, isTrue a X.env whole = (do let v ← whole; standAt a.pos; holding [v] (truthy v)) := by intro _; rfl) : ST X W a (dTru da) := by
  refine PT.imp (pt_truth ha he) fun σ H Q w => ?_
  obtain ⟨ρ, σd, h, Xd, Qd, hr, sr, w, kx, k⟩ := w
  refine ⟨ρ, σd, h, Xd, _, hr, sr, w, kx, fun ρ' d h' v H' e hr' dv q => ?_⟩
  obtain ⟨b, e1, q⟩ := q
  exact ⟨b, tru_at hr' dv e1, k ρ' b h' H' e hr' q⟩

/-! ### and, or, not; if as an expression -/
variable {tA tB : DT} {rest : List Expr}
def dAnd (t u : DT) : DT := fun σ h X Q => t σ h X fun b h1 => (b = true → u σ h1 X Q) ∧ (b = false → Q false h1)
def dOr (t u : DT) : DT := fun σ h X Q => t σ h X fun b h1 => (b = true → Q true h1) ∧ (b = false → u σ h1 X Q)
def dNot (t : DT) : DT := fun σ h X Q => t σ h X fun b h1 => Q (!b) h1
theorem sw_and1 (ha : ST X W a tA) : SW X W (.BoolOp .And [a] pos) tA := pw_and1 ha
theorem sw_or1 (ha : ST X W a tA) : SW X W (.BoolOp .Or [a] pos) tA := pw_or1 ha
theorem sw_and (ha : ST X W a tA) (hb : SW X W (.BoolOp .And (b :: rest) pos) tB) : SW X W (.BoolOp .And (a :: b :: rest) pos) (dAnd tA tB) := by
  refine PW.imp (pw_and ha hb) fun σ H Q w => ?_
  obtain ⟨ρ, σd, h, Xd, Qd, hr, sr, w, kx, k⟩ := w
  refine lT.go hr sr w kx fun ρ1 b1 h1 H1 e1 hr1 sr1 kx1 q => ?_
  cases b1 with
  | true => exact iteT ⟨ρ1, σd, h1, Xd, Qd, hr1, sr1, q.1 rfl, kx1, fun ρ' b h' H' e => k ρ' b h' H' (e1.trans e)⟩
  | false => exact iteF (k ρ1 false h1 H1 e1 hr1 (q.2 rfl))
theorem sw_or (ha : ST X W a tA) (hb : SW X W (.BoolOp .Or (b :: rest) pos) tB) : SW X W (.BoolOp .Or (a :: b :: rest) pos) (dOr tA tB) := by
  refine PW.imp (pw_or ha hb) fun σ H Q w => ?_
  obtain ⟨ρ, σd, h, Xd, Qd, hr, sr, w, kx, k⟩ := w
  refine lT.go hr sr w kx fun ρ1 b1 h1 H1 e1 hr1 sr1 kx1 q => ?_
  cases b1 with
  | true => exact iteT (k ρ1 true h1 H1 e1 hr1 (q.1 rfl))
  | false => exact iteF ⟨ρ1, σd, h1, Xd, Qd, hr1, sr1, q.2 rfl, kx1, fun ρ' b h' H' e => k ρ' b h' H' (e1.trans e)⟩
theorem st_w {e : Expr} (h : SW X W e tA) : ST X W e tA := h.pt
theorem st_not (ha : ST X W a tA) : ST X W (.UnaryOp .Not a pos) (dNot tA) := by
  refine PT.imp (pt_not ha) fun σ H Q w => ?_
  obtain ⟨ρ, σd, h, Xd, Qd, hr, sr, w, kx, k⟩ := w
  exact ⟨ρ, σd, h, Xd, _, hr, sr, w, kx, fun ρ' b h' H' e hr' q => k ρ' _ h' H' e hr' q⟩
/-- as values -/
def dAndV (da db : DE) : DE := fun σ h X Q => da σ h X fun d h1 => ∃ b, d = .bl b ∧ (b = true → db σ h1 X Q) ∧ (b = false → Q (.bl false) h1)
def dOrV (da db : DE) : DE := fun σ h X Q => da σ h X fun d h1 => ∃ b, d = .bl b ∧ (b = true → Q (.bl true) h1) ∧ (b = false → db σ h1 X Q)
def dNotV (da : DE) : DE := fun σ h X Q => da σ h X fun d h1 => ∃ b, d = .bl b ∧ Q (.bl (!b)) h1
theorem se_one {op} (h : SE X W a da) : SE X W (.BoolOp op [a] pos) da := pe_one h
theorem se_and (ha : SE X W a da) (hb : SE X W (.BoolOp .And (b :: rest) pos) db) : SE X W (.BoolOp .And (a :: b :: rest) pos) (dAndV da db) := by
  refine PE.imp (pe_and ha hb) fun σ H Q w => ?_
  obtain ⟨ρ, σd, h, Xd, Qd, hr, sr, w, kx, k⟩ := w
  refine lE.go hr sr w kx fun ρ1 d1 h1 v1 H1 e1 hr1 sr1 kx1 dv1 q => ?_
  obtain ⟨b1, rfl, q1, q2⟩ := q
  refine ⟨b1, dv1, ?_⟩
  cases b1 with
  | true => exact iteT ⟨ρ1, σd, h1, Xd, Qd, hr1, sr1, q1 rfl, kx1, fun ρ' d h' v H' e => k ρ' d h' v H' (e1.trans e)⟩
  | false => exact iteF (k ρ1 (.bl false) h1 _ H1 e1 hr1 rfl (q2 rfl))
theorem se_or (ha : SE X W a da) (hb : SE X W (.BoolOp .Or (b :: rest) pos) db) : SE X W (.BoolOp .Or (a :: b :: rest) pos) (dOrV da db) := by
  refine PE.imp (pe_or ha hb) fun σ H Q w => ?_
  obtain ⟨ρ, σd, h, Xd, Qd, hr, sr, w, kx, k⟩ := w
  refine lE.go hr sr w kx fun ρ1 d1 h1 v1 H1 e1 hr1 sr1 kx1 dv1 q => ?_
  obtain ⟨b1, rfl, q1, q2⟩ := q
  refine ⟨b1, dv1, ?_⟩
  cases b1 with
  | true => exact iteT (k ρ1 (.bl true) h1 _ H1 e1 hr1 rfl (q1 rfl))
  | false => exact iteF ⟨ρ1, σd, h1, Xd, Qd, hr1, sr1, q2 rfl, kx1, fun ρ' d h' v H' e => k ρ' d h' v H' (e1.trans e)⟩
theorem se_not (ha : SE X W a da) : SE X W (.UnaryOp .Not a pos) (dNotV da) := by
  refine PE.imp (pe_not ha) fun σ H Q w => ?_
  obtain ⟨ρ, σd, h, Xd, Qd, hr, sr, w, kx, k⟩ := w
  refine ⟨ρ, σd, h, Xd, _, hr, sr, w, kx, fun ρ1 d1 h1 v1 H1 e1 hr1 dv1 q => ?_⟩
  obtain ⟨b1, rfl, q⟩ := q
  exact ⟨b1, dv1, k ρ1 (.bl (!b1)) h1 _ H1 e1 hr1 rfl q⟩
def dIfE (t : DT) (da db : DE) : DE := fun σ h X Q => t σ h X fun b h1 => (b = true → da σ h1 X Q) ∧ (b = false → db σ h1 X Q)
theorem se_if {c : Expr} (hc : ST X W c tA) (ha : SE X W a da) (hb : SE X W b db) : SE X W (.IfExp c a b pos) (dIfE tA da db) := by
  refine PE.imp (pe_ifExp hc ha hb) fun σ H Q w => ?_
  obtain ⟨ρ, σd, h, Xd, Qd, hr, sr, w, kx, k⟩ := w
  refine lT.go hr sr w kx fun ρ1 b1 h1 H1 e1 hr1 sr1 kx1 q => ?_
  cases b1 with
  | true => exact iteT ⟨ρ1, σd, h1, Xd, Qd, hr1, sr1, q.1 rfl, kx1, fun ρ' d h' v H' e => k ρ' d h' v H' (e1.trans e)⟩
  | false => exact iteF ⟨ρ1, σd, h1, Xd, Qd, hr1, sr1, q.2 rfl, kx1, fun ρ' d h' v H' e => k ρ' d h' v H' (e1.trans e)⟩
/-- a < b < c -/
def dChn (op op' : D2) (da db dc : DE) : DE := fun σ h X Q => da σ h X fun x h1 => db σ h1 X fun y h2 => op x y h2 fun z h3 => ∃ k, z = .bl k ∧ (k = true → dc σ h3 X fun u h4 => op' y u h4 Q) ∧ (k = false → Q (.bl false) h3)

/-! ### arguments, displays -/
variable {es : List Expr} {ts : DA}
def aNil : DA := fun _ h _ Q => Q [] h
def aCons (da : DE) (ts : DA) : DA := fun σ h X Q => da σ h X fun x h1 => ts σ h1 X fun xs h2 => Q (x :: xs) h2
theorem sa_nil : SA X W [] aNil := PA.imp pa_nil fun σ H Q w => by
  obtain ⟨ρ, σd, h, Xd, Qd, hr, sr, w, kx, k⟩ := w
  exact k ρ [] h [] H .refl hr rfl w
theorem sa_cons (ha : SE X W a da) (hs : SA X W es ts) (hq : starEach (a :: es) X.env = (false, eval a X.env) :: starEach es X.env := by rfl) : SA X W (a :: es) (aCons da ts) := PA.imp (pa_cons ha hs hq) fun σ H Q w => by
  obtain ⟨ρ, σd, h, Xd, Qd, hr, sr, w, kx, k⟩ := w
  refine lE.go hr sr w kx fun ρ1 d1 h1 v1 H1 e1 hr1 sr1 kx1 dv1 w1 => lA.go hr1 sr1 w1 kx1 fun ρ2 ds h2 vs H2 e2 hr2 sr2 kx2 dvs w2 => ?_
  exact k ρ2 (d1 :: ds) h2 _ H2 (e1.trans e2) hr2 ⟨v1, vs, rfl, dv1.ext e2, dvs⟩ w2
def dTup (ts : DA) : DE := fun σ h X Q => ts σ h X fun ds h1 => ds.length ≤ sizeLine ∧ Q (.tup ds) h1
/-- a list that will not change -/
def dLst (ts : DA) : DE := fun σ h X Q => ts σ h X fun ds h1 => ds.length ≤ sizeLine ∧ Q (.lst ds) h1
/-- a list that may change -/
def dLstH (ts : DA) : DE := fun σ h X Q => ts σ h X fun ds h1 => ds.length ≤ sizeLine ∧ Q (.ref h1.length) (h1 ++ [.lst ds])
theorem se_tup {k : Nat} (h : SA X W es ts) : SE X W (.Tuple es k pos) (dTup ts) := PE.imp (pe_tup h) fun σ H Q w => by
  obtain ⟨ρ, σd, h, Xd, Qd, hr, sr, w, kx, k⟩ := w
  refine ⟨ρ, σd, h, Xd, _, hr, sr, w, kx, fun ρ1 ds h1 vs H1 e1 hr1 dvs q => ⟨by rw [dvs.length]; exact q.1, fun p np => ?_⟩⟩
  exact k ρ1 _ h1 _ _ (e1.trans (.new1 np)) (hr1.new1 np) (.tupNew hr1 np dvs) q.2
theorem se_lst (h : SA X W es ts) : SE X W (.List es pos) (dLst ts) := PE.imp (pe_lst h) fun σ H Q w => by
  obtain ⟨ρ, σd, h, Xd, Qd, hr, sr, w, kx, k⟩ := w
  refine ⟨ρ, σd, h, Xd, _, hr, sr, w, kx, fun ρ1 ds h1 vs H1 e1 hr1 dvs q => ⟨by rw [dvs.length]; exact q.1, fun p np => ?_⟩⟩
  exact k ρ1 _ h1 _ _ (e1.trans (.new1 np)) (hr1.new1 np) (.lstNew hr1 np dvs) q.2
theorem push_lst {K : PySem.W.Frag} {ρ : List Addr} {h : DHp} {H : Hp} {p : Addr} {ds : List D} {vs : List V} (hr : HR K ρ h H) (np : H p = none) (dvs : DVs K ρ H ds vs) :
    HR K (ρ ++ [p]) (h ++ [.lst ds]) (upd H p (.lst vs)) ∧ DV K (ρ ++ [p]) (upd H p (.lst vs)) (.ref h.length) (.ref p) :=
  ⟨hr.push np ⟨vs, upd_same, DVs.ext (.push np) _ _ dvs⟩, p, rfl, by rw [← hr.len, List.getElem?_append_right (Nat.le_refl _), Nat.sub_self]; rfl⟩
theorem se_lstH (h : SA X W es ts) : SE X W (.List es pos) (dLstH ts) := PE.imp (pe_lst h) fun σ H Q w => by
  obtain ⟨ρ, σd, h, Xd, Qd, hr, sr, w, kx, k⟩ := w
  refine ⟨ρ, σd, h, Xd, _, hr, sr, w, kx, fun ρ1 ds h1 vs H1 e1 hr1 dvs q => ⟨by rw [dvs.length]; exact q.1, fun p np => ?_⟩⟩
  obtain ⟨a1, a2⟩ := push_lst hr1 np dvs
  exact k _ _ _ _ _ (e1.trans (.push np)) a1 a2 q.2

/-! ### subscripts -/
theorem se_ix (hr : IxR X r) (L : L2ok X.K op r) (ha : SE X W a da) (hb : SE X W b db) (hs : PlainIx b := by exact fun _ _ => rfl) : SE X W (.Subscript a b pos) (dOp op da db) :=
  PE.imp (pe_ix hr ha hb hs) fun σ H Q w => two L w fun _ _ _ q => q
def dIx : D2 := fun x y h Q => ∃ i, y = .int i ∧ ((∃ l d, asS h x = some l ∧ atI l i = some d ∧ Q d h) ∨ ∃ z c, x = .str z ∧ z.length ≤ sizeLine ∧ atI z.cps.toList i = some c ∧ Q (.str ⟨#[c]⟩) h)
theorem atI_of {K : PySem.W.Frag} {ρ : List Addr} {H : Hp} {l : List D} {vs : List V} {i : Int} {d : D} (dvs : DVs K ρ H l vs) (e : atI l i = some d) : ∃ v, atI vs i = some v ∧ DV K ρ H d v := by
  unfold atI at e ⊢
  rw [dvs.length]
  cases q : ixN l.length i with
  | none => rw [q] at e; cases e
  | some j =>
    rw [q] at e
    exact dvs.get (show l[j]? = some d from e)
theorem L_ix {K : PySem.W.Frag} : L2ok K dIx (rIx K) := by
  intro ρ h H x y vx vy Qd Q hr dx dy w k
  obtain ⟨i, rfl, w⟩ := w
  rcases w with ⟨l, d, e1, e2, q⟩ | ⟨z, c, rfl, hz, e2, q⟩
  · obtain ⟨a, vs, rfl, hq, dvs⟩ := asS_at hr dx e1
    obtain ⟨v, e3, dv⟩ := atI_of dvs e2
    have fin := k ρ d h v H .refl hr dv q
    rcases hq with hq | hq
    · exact .inl ⟨a, vs, i, v, rfl, dy, hq, e3, fin⟩
    · exact .inr (.inl ⟨a, vs, i, v, rfl, dy, hq, e3, fin⟩)
  · exact .inr (.inr ⟨z, i, c, dx, dy, hz, e2, k ρ (.str ⟨#[c]⟩) h _ H .refl hr rfl q⟩)
theorem se_sub (ha : SE X W a da) (hb : SE X W b db) (hs : PlainIx b := by exact fun _ _ => rfl) : SE X W (.Subscript a b pos) (dOp dIx da db) := se_ix ix_seq L_ix ha hb hs

/-! ### fields -/
def dFld (f : Str) (da : DE) : DE := fun σ h X Q => da σ h X fun x h1 => (∃ c fs d, x = .obj c fs ∧ fs.lookup f = some d ∧ Q d h1) ∨ ∃ i c fs d, x = .ref i ∧ h1[i]? = some (.ins c fs) ∧ fs.lookup f = some d ∧ Q d h1
/-- the classes whose instances may be read of f -/
def FldOk (K : PySem.W.Frag) (cs : List String) (f : Str) : Prop := ∀ c ∈ cs, Cls K (He.ga K (Str.ofString c)) ∧ NoAttr K (He.ga K (Str.ofString c)) f
def nFld (cs : List String) (f : Str) (x : D) (h1 : DHp) (Q : DK) : Prop := ∃ c fs d, c ∈ cs ∧ (x = .obj c fs ∨ ∃ i, x = .ref i ∧ h1[i]? = some (.ins c fs)) ∧ fs.lookup f = some d ∧ Q d h1
theorem fld_eq {cs : List String} {f : Str} {c : String} {fs : List (Str × D)} {d : D} {h : DHp} {Q : DK} (hc : c ∈ cs) (e : fs.lookup f = some d) : nFld cs f (.obj c fs) h Q ↔ Q d h := by
  constructor
  · rintro ⟨c', fs', d', _, hx, e2, q⟩
    rcases hx with hx | ⟨i, hx, _⟩
    · cases hx
      rw [e] at e2; cases e2
      exact q
    · cases hx
  · intro q
    exact ⟨c, fs, d, hc, .inl rfl, e, q⟩
def dFldC (cs : List String) (f : Str) (da : DE) : DE := fun σ h X Q => da σ h X fun x h1 => nFld cs f x h1 Q
theorem se_fld {cs : List String} {f : Str} (hf : FldOk X.K cs f) (ha : SE X W a da) (hb : attributeBase a f X.env (eval a X.env) = eval a X.env := by rfl) : SE X W (.Attribute a f pos) (dFldC cs f da) := PE.imp (pe_fld ha hb) fun σ H Q w => by
  obtain ⟨ρ, σd, h, Xd, Qd, hr, sr, w, kx, k⟩ := w
  refine ⟨ρ, σd, h, Xd, _, hr, sr, w, kx, fun ρ1 x h1 v H1 e1 hr1 dv q => ?_⟩
  obtain ⟨c, fs, d, hc, hx, hl, q⟩ := q
  obtain ⟨hcl, hna⟩ := hf c hc
  have : ∃ a dx ws, v = .ref a ∧ H1 a = some (.ins (He.ga X.K (Str.ofString c)) dx ws) ∧ DFs X.K ρ1 H1 fs ws := by
    rcases hx with rfl | ⟨i, rfl, hi⟩
    · obtain ⟨a, dx, ws, e, _, q1, q2⟩ := dv; exact ⟨a, dx, ws, e, q1, q2⟩
    · obtain ⟨a, e, q1⟩ := dv
      obtain ⟨dx, ws, q2, q3⟩ := hr1.at_ i _ a hi q1
      exact ⟨a, dx, ws, e, q2, q3⟩
  obtain ⟨a, dx, ws, rfl, hH, dfs⟩ := this
  obtain ⟨u, hl', du⟩ := dfs.lookup hl
  exact ⟨a, _, dx, ws, u, rfl, hH, hcl, hna, hl', k ρ1 d h1 u H1 e1 hr1 du q⟩
end
end L2.MW

/-! MW, part C: the operators by their values. -/
namespace L2.MW
open PySem PySem.Spec PyProof.Rows

/-! ### ints -/
def dII (C : Int → Int → Prop) (g : Int → Int → D) : D2 := fun x y h Q => ∃ i j, x = .int i ∧ y = .int j ∧ C i j ∧ Q (g i j) h
def dI0 (g : Int → Int → D) : D2 := fun x y h Q => ∃ i j, x = .int i ∧ y = .int j ∧ Q (g i j) h
theorem L_II {K : PySem.W.Frag} {C : Int → Int → Prop} {g : Int → Int → D} {g' : Int → Int → V} (e : ∀ ρ H i j, DV K ρ H (g i j) (g' i j)) : L2ok K (dII C g) (rI C g') := by
  intro ρ h H x y vx vy Qd Q hr dx dy w k
  obtain ⟨i, j, rfl, rfl, c, q⟩ := w
  exact ⟨i, j, dx, dy, c, k ρ (g i j) h _ H .refl hr (e ρ H i j) q⟩
theorem L_I0 {K : PySem.W.Frag} {g : Int → Int → D} {g' : Int → Int → V} (e : ∀ ρ H i j, DV K ρ H (g i j) (g' i j)) : L2ok K (dI0 g) (rI0 g') := by
  intro ρ h H x y vx vy Qd Q hr dx dy w k
  obtain ⟨i, j, rfl, rfl, q⟩ := w
  exact ⟨i, j, dx, dy, k ρ (g i j) h _ H .refl hr (e ρ H i j) q⟩
section
variable {X : Cx} {W : WX} {a b c : Expr} {da db dc : DE} {pos : Pos}
theorem se_sub2 (ha : SE X W a da) (hb : SE X W b db) : SE X W (.BinOp a .Sub b pos) (dOp (dI0 fun i j => .int (i - j)) da db) := se_op op_sub (L_I0 fun _ _ _ _ => rfl) ha hb
theorem se_fdiv (ha : SE X W a da) (hb : SE X W b db) : SE X W (.BinOp a .FloorDiv b pos) (dOp (dII CDiv fun i j => .int (i / j)) da db) := se_op op_fdiv (L_II fun _ _ _ _ => rfl) ha hb
theorem se_mod (ha : SE X W a da) (hb : SE X W b db) : SE X W (.BinOp a .Mod b pos) (dOp (dII (fun _ j => 0 < j) fun i j => .int (i % j)) da db) := se_op op_mod (L_II fun _ _ _ _ => rfl) ha hb
theorem se_pow (ha : SE X W a da) (hb : SE X W b db) : SE X W (.BinOp a .Pow b pos) (dOp (dII CPow fun i j => .int (i ^ j.toNat)) da db) := se_op op_pow (L_II fun _ _ _ _ => rfl) ha hb
theorem se_shl (ha : SE X W a da) (hb : SE X W b db) : SE X W (.BinOp a .LShift b pos) (dOp (dII CPow fun i j => .int (i * 2 ^ j.toNat)) da db) := se_op op_shl (L_II fun _ _ _ _ => rfl) ha hb
theorem se_shr (ha : SE X W a da) (hb : SE X W b db) : SE X W (.BinOp a .RShift b pos) (dOp (dII (fun _ j => 0 ≤ j) fun i j => .int (i / 2 ^ j.toNat)) da db) := se_op op_shr (L_II fun _ _ _ _ => rfl) ha hb
theorem se_band (ha : SE X W a da) (hb : SE X W b db) : SE X W (.BinOp a .BitAnd b pos) (dOp (dI0 fun i j => .int (Builtin.bitAnd i j)) da db) := se_op op_and (L_I0 fun _ _ _ _ => rfl) ha hb
theorem se_bor (ha : SE X W a da) (hb : SE X W b db) : SE X W (.BinOp a .BitOr b pos) (dOp (dI0 fun i j => .int (Builtin.bitOr i j)) da db) := se_op op_or (L_I0 fun _ _ _ _ => rfl) ha hb
theorem se_bxor (ha : SE X W a da) (hb : SE X W b db) : SE X W (.BinOp a .BitXor b pos) (dOp (dI0 fun i j => .int (Builtin.bitXor i j)) da db) := se_op op_xor (L_I0 fun _ _ _ _ => rfl) ha hb

/-! ### + -/
/-- t + u, any tuples -/
def rCatT' (K : PySem.W.Frag) : R2 := fun x y H Q => ∃ a b xs ys, x = .ref a ∧ y = .ref b ∧ SqT K H a xs ∧ SqT K H b ys ∧ xs.length + ys.length ≤ sizeLine ∧
  (xs = [] → Q (.ref b) H) ∧ (xs ≠ [] → ys = [] → Q (.ref a) H) ∧ (xs ≠ [] → ys ≠ [] → ∀ p, H p = none → Q (.ref p) (upd H p (.tup (xs ++ ys))))
theorem op_catT' : OpR X (binaryOp .Add) (rCatT' X.K) := by
  intro pins s σ H x y v u Q I rx ry h
  obtain ⟨a, b, xs, ys, rfl, rfl, ha, hb, hz, q0, q1, q2⟩ := h
  by_cases hx : xs = []
  · cases rx
    cases ry
    obtain ⟨its, r1, p1, _⟩ := I.tuple ha
    obtain ⟨its2, r2, p2, _⟩ := I.tuple hb
    have ei : its = [] := r1.nil_iff.mpr hx
    subst ei
    obtain ⟨⟨cls, dd, data, sl⟩, ho, hc, n, hd⟩ := id p1
    obtain ⟨⟨cls2, dd2, data2, sl2⟩, ho2, hc2, n2, hd2⟩ := id p2
    simp only at hc hd hc2 hd2
    subst hc hd hc2 hd2
    exact concat_meets ⟨_, ho, rfl⟩ ⟨_, ho2, rfl⟩ noFill_tuple_add seq_tuple_add PySem.F.slot_tuple_add PySem.F.entry_tuple_add (PySem.F.args_tuple_add_2 _ _)
      (tuple_addW0 a b #[] its2.toArray n n2 dd dd2 sl sl2 rfl) ⟨ho, ho2, ⟨.ref b, H, I, rfl, q0 hx⟩⟩
  · exact op_catT pins s σ H (.ref a) (.ref b) v u Q I rx ry ⟨a, b, xs, ys, rfl, rfl, ha, hb, hx, hz, q1 hx, q2 hx⟩
def dAdd : D2 := fun x y h Q => match x with
  | .int i => ∃ j, y = .int j ∧ Q (.int (i + j)) h
  | .str a => ∃ b, y = .str b ∧ a.length + b.length ≤ sizeLine ∧ Q (.str (a ++ b)) h
  | .tup a => ∃ b, y = .tup b ∧ a.length + b.length ≤ sizeLine ∧ Q (.tup (a ++ b)) h
  | x => ∃ a b, asX h x = some a ∧ asX h y = some b ∧ a.length + b.length ≤ sizeLine ∧ Q (.lst (a ++ b)) h
def rAdd4 (K : PySem.W.Frag) : R2 := fun x y H Q => (rI0 fun i j => .int (i + j)) x y H Q ∨ (∃ i j, x = .str i ∧ y = .str j ∧ i.length + j.length ≤ sizeLine ∧ Q (.str (i ++ j)) H) ∨ rCatT' K x y H Q ∨ rCat x y H Q
theorem op_add4 : OpR X (binaryOp .Add) (rAdd4 X.K) := op_add.or (op_add_str.or (op_catT'.or op_cat))
theorem nil_of_len {α β : Type} {xs : List α} {ys : List β} (h : xs.length = ys.length) : xs = [] ↔ ys = [] := by
  cases xs <;> cases ys <;> simp at h ⊢
theorem L_add {K : PySem.W.Frag} : L2ok K dAdd (rAdd4 K) := by
  intro ρ h H x y vx vy Qd Q hr dx dy w k
  have lists : (∃ a b, asX h x = some a ∧ asX h y = some b ∧ a.length + b.length ≤ sizeLine ∧ Qd (.lst (a ++ b)) h) → rAdd4 K vx vy H Q := by
    rintro ⟨a, b, e1, e2, hz, q⟩
    obtain ⟨p, vs, rfl, h1, d1⟩ := asX_at hr dx e1
    obtain ⟨p', vs', rfl, h2, d2⟩ := asX_at hr dy e2
    refine .inr (.inr (.inr ⟨p, p', vs, vs', rfl, rfl, h1, h2, by rw [d1.length, d2.length]; exact hz, fun n np => ?_⟩))
    exact k ρ _ h _ _ (.new1 np) (hr.new1 np) (.lstNew hr np (d1.append d2)) q
  cases x with
  | int i => obtain ⟨j, rfl, q⟩ := w; exact .inl ⟨i, j, dx, dy, k ρ (.int (i + j)) h _ H .refl hr rfl q⟩
  | str i => obtain ⟨j, rfl, hz, q⟩ := w; exact .inr (.inl ⟨i, j, dx, dy, hz, k ρ (.str (i ++ j)) h _ H .refl hr rfl q⟩)
  | tup a =>
    obtain ⟨b, rfl, hz, q⟩ := w
    have dx' := dx
    have dy' := dy
    obtain ⟨p, vs, rfl, h1, d1⟩ := dx
    obtain ⟨p', vs', rfl, h2, d2⟩ := dy
    refine .inr (.inr (.inl ⟨p, p', vs, vs', rfl, rfl, h1.sq, h2.sq, by rw [d1.length, d2.length]; exact hz, fun e => ?_, fun _ e => ?_, fun _ _ n np => ?_⟩))
    · have ea : a = [] := (nil_of_len d1.length).mp e
      subst ea
      exact k ρ (.tup b) h _ H .refl hr dy' q
    · have eb : b = [] := (nil_of_len d2.length).mp e
      subst eb
      rw [List.append_nil] at q
      exact k ρ (.tup a) h _ H .refl hr dx' q
    · exact k ρ _ h _ _ (.new1 np) (hr.new1 np) (.tupNew hr np (d1.append d2)) q
  | lst a => exact lists w
  | ref a => exact lists w
  | fz a => exact lists w
  | non => exact lists w
  | bl _ => exact lists w
  | obj _ _ => exact lists w
  | ty _ => exact lists w
  | cls _ => exact lists w
  | exn _ _ _ _ => exact lists w
theorem se_add (ha : SE X W a da) (hb : SE X W b db) : SE X W (.BinOp a .Add b pos) (dOp dAdd da db) := se_op op_add4 L_add ha hb

/-! ### * -/
def dMul : D2 := fun x y h Q => ∃ j, y = .int j ∧ match x with
  | .int i => CMul i j ∧ Q (.int (i * j)) h
  | .tup a => a ≠ [] ∧ 2 ≤ j ∧ j ≤ 1000 ∧ a.length ≤ 1000 ∧ Q (.tup (List.replicate j.toNat a).flatten) h
  | x => ∃ a, asX h x = some a ∧ -(2 ^ 63) ≤ j ∧ j < 2 ^ 63 ∧ a.length * j.toNat ≤ sizeLine ∧ Q (.lst (List.replicate j.toNat a).flatten) h
theorem DVs.rep {K : PySem.W.Frag} {ρ : List Addr} {H : Hp} {l : List D} {vs : List V} (d : DVs K ρ H l vs) : ∀ k : Nat, DVs K ρ H (List.replicate k l).flatten (List.replicate k vs).flatten
  | 0 => rfl
  | k + 1 => by rw [List.replicate_succ, List.replicate_succ, List.flatten_cons, List.flatten_cons]; exact d.append (DVs.rep d k)
def rMul3 (K : PySem.W.Frag) : R2 := fun x y H Q => (rI CMul fun i j => .int (i * j)) x y H Q ∨ rRepT K x y H Q ∨ rRep x y H Q
theorem op_mul3 : OpR X (binaryOp .Mult) (rMul3 X.K) := op_mul.or (op_repT.or op_rep)
theorem L_mul {K : PySem.W.Frag} : L2ok K dMul (rMul3 K) := by
  intro ρ h H x y vx vy Qd Q hr dx dy w k
  obtain ⟨j, rfl, w⟩ := w
  have ey : vy = .int j := dy
  subst ey
  have lists : (∃ a, asX h x = some a ∧ -(2 ^ 63) ≤ j ∧ j < 2 ^ 63 ∧ a.length * j.toNat ≤ sizeLine ∧ Qd (.lst (List.replicate j.toNat a).flatten) h) → rMul3 K vx (.int j) H Q := by
    rintro ⟨a, e1, b1, b2, hz, q⟩
    obtain ⟨p, vs, rfl, h1, d1⟩ := asX_at hr dx e1
    refine .inr (.inr ⟨p, j, vs, rfl, rfl, h1, b1, b2, by rw [d1.length]; exact hz, fun n np => ?_⟩)
    exact k ρ _ h _ _ (.new1 np) (hr.new1 np) (.lstNew hr np (d1.rep _)) q
  cases x with
  | int i => exact .inl ⟨i, j, dx, rfl, w.1, k ρ (.int (i * j)) h _ H .refl hr rfl w.2⟩
  | tup a =>
    obtain ⟨ha, b1, b2, hz, q⟩ := w
    obtain ⟨p, vs, rfl, h1, d1⟩ := dx
    refine .inr (.inl ⟨p, j, vs, rfl, rfl, h1.sq, fun e => ha ((nil_of_len d1.length).mp e), b1, b2, by rw [d1.length]; exact hz, fun n np => ?_⟩)
    exact k ρ _ h _ _ (.new1 np) (hr.new1 np) (.tupNew hr np (d1.rep _)) q
  | lst a => exact lists w
  | ref a => exact lists w
  | fz a => exact lists w
  | non => exact lists w
  | bl _ => exact lists w
  | obj _ _ => exact lists w
  | ty _ => exact lists w
  | cls _ => exact lists w
  | exn _ _ _ _ => exact lists w
  | str _ => exact lists w
theorem se_mul (ha : SE X W a da) (hb : SE X W b db) : SE X W (.BinOp a .Mult b pos) (dOp dMul da db) := se_op op_mul3 L_mul ha hb
/-! ### one operand -/
def dNeg (da : DE) : DE := fun σ h X Q => da σ h X fun d h1 => ∃ i, d = .int i ∧ Q (.int (-i)) h1
def dInv (da : DE) : DE := fun σ h X Q => da σ h X fun d h1 => ∃ i, d = .int i ∧ Q (.int (Builtin.bitNot i)) h1
theorem se_neg (ha : SE X W a da) : SE X W (.UnaryOp .USub a pos) (dNeg da) := by
  refine PE.imp (pe_un un_neg ha) fun σ H Q w => ?_
  obtain ⟨ρ, σd, h, Xd, Qd, hr, sr, w, kx, k⟩ := w
  refine ⟨ρ, σd, h, Xd, _, hr, sr, w, kx, fun ρ1 d1 h1 v1 H1 e1 hr1 dv1 q => ?_⟩
  obtain ⟨i, rfl, q⟩ := q
  exact ⟨i, dv1, k ρ1 (.int (-i)) h1 _ H1 e1 hr1 rfl q⟩
theorem se_inv (ha : SE X W a da) : SE X W (.UnaryOp .Invert a pos) (dInv da) := by
  refine PE.imp (pe_un un_inv ha) fun σ H Q w => ?_
  obtain ⟨ρ, σd, h, Xd, Qd, hr, sr, w, kx, k⟩ := w
  refine ⟨ρ, σd, h, Xd, _, hr, sr, w, kx, fun ρ1 d1 h1 v1 H1 e1 hr1 dv1 q => ?_⟩
  obtain ⟨i, rfl, q⟩ := q
  exact ⟨i, dv1, k ρ1 (.int (Builtin.bitNot i)) h1 _ H1 e1 hr1 rfl q⟩

/-! ### == of data -/
mutual
def toP : D → PyData
  | .non => .none
  | .bl b => .bool b
  | .int i => .int i
  | .str x => .str x
  | .tup l => .tuple (toPs l)
  | .lst l => .list (toPs l)
  | .fz l => .list (toPs l)
  | .ref _ => .none
  | .obj _ _ => .none
  | .ty _ => .none
  | .cls _ => .none
  | .exn _ _ _ _ => .none
def toPs : List D → List PyData
  | [] => []
  | d :: ds => toP d :: toPs ds
end
/-- data of at most this depth without objects -/
def OkD : Nat → D → Prop
  | _, .non => True
  | _, .bl _ => True
  | _, .int _ => True
  | _, .str x => PyData.strOk x = true
  | n + 1, .tup l => ∀ x ∈ l, OkD n x
  | n + 1, .lst l => ∀ x ∈ l, OkD n x
  | n + 1, .fz l => ∀ x ∈ l, OkD n x
  | _, _ => False
theorem toPs_map : ∀ l : List D, toPs l = l.map toP
  | [] => rfl
  | d :: ds => by rw [toPs, toPs_map ds]; rfl
section
variable {K : PySem.W.Frag} {ρ : List Addr} {H : Hp}
theorem OkD.all {n : Nat} (ih : ∀ d v, OkD n d → DV K ρ H d v → Dp K H v (toP d) ∧ (toP d).canLay0 = true ∧ (toP d).depth ≤ n) : ∀ {l : List D} {vs : List V}, (∀ x ∈ l, OkD n x) → DVs K ρ H l vs → DpAll K H vs (toPs l) ∧ PyData.canLayAll0 (toPs l) = true ∧ PyData.depthAll (toPs l) ≤ n
  | [], _, _, d => by rw [show _ = [] from d]; exact ⟨.nil, rfl, Nat.zero_le _⟩
  | x :: l, _, o, ⟨v, r, e, d1, d2⟩ => by
    subst e
    obtain ⟨a1, a2, a3⟩ := ih x v (o x List.mem_cons_self) d1
    obtain ⟨b1, b2, b3⟩ := OkD.all ih (fun y hy => o y (List.mem_cons_of_mem _ hy)) d2
    exact ⟨.cons a1 b1, by rw [toPs, PyData.canLayAll0, a2, b2]; rfl, by rw [toPs, PyData.depthAll]; exact Nat.max_le.mpr ⟨a3, b3⟩⟩
theorem OkD.dp : ∀ (n : Nat) (d : D) (v : V), OkD n d → DV K ρ H d v → Dp K H v (toP d) ∧ (toP d).canLay0 = true ∧ (toP d).depth ≤ n := by
  intro n
  induction n with
  | zero =>
    intro d v o dv
    cases d with
    | non => have z : v = .non := dv; subst z; exact ⟨.non, rfl, Nat.le_refl _⟩
    | bl b => have z : v = .bl b := dv; subst z; exact ⟨.bl b, rfl, Nat.le_refl _⟩
    | int i => have z : v = .int i := dv; subst z; exact ⟨.int i, rfl, Nat.le_refl _⟩
    | str x => have z : v = .str x := dv; subst z; exact ⟨.str x, o, Nat.le_refl _⟩
    | _ => exact o.elim
  | succ n ih =>
    intro d v o dv
    cases d with
    | non => have z : v = .non := dv; subst z; exact ⟨.non, rfl, Nat.zero_le _⟩
    | bl b => have z : v = .bl b := dv; subst z; exact ⟨.bl b, rfl, Nat.zero_le _⟩
    | int i => have z : v = .int i := dv; subst z; exact ⟨.int i, rfl, Nat.zero_le _⟩
    | str x => have z : v = .str x := dv; subst z; exact ⟨.str x, o, Nat.zero_le _⟩
    | tup l =>
      obtain ⟨a, vs, rfl, h1, h2⟩ := dv
      obtain ⟨b1, b2, b3⟩ := OkD.all ih o h2
      exact ⟨.tup h1.sq b1, b2, Nat.succ_le_succ b3⟩
    | lst l =>
      obtain ⟨a, vs, rfl, h1, h2⟩ := dv
      obtain ⟨b1, b2, b3⟩ := OkD.all ih o h2
      exact ⟨.lst h1.sq b1, b2, Nat.succ_le_succ b3⟩
    | fz l =>
      obtain ⟨a, vs, rfl, h1, h2⟩ := dv
      obtain ⟨b1, b2, b3⟩ := OkD.all ih o h2
      exact ⟨.lst h1.sq b1, b2, Nat.succ_le_succ b3⟩
    | _ => exact o.elim
end
/-- a changing list, as it is now -/
def rz (h : DHp) : D → D
  | .ref i => (match h[i]? with | some (.lst l) => .lst l | _ => .ref i)
  | d => d
def deq (x y : D) : Bool := PyData.eqv (toP x) (toP y)
theorem rz_dp {K : PySem.W.Frag} {ρ : List Addr} {h : DHp} {H : Hp} {d : D} {v : V} (hr : HR K ρ h H) (dv : DV K ρ H d v) (o : OkD 60 (rz h d)) : Dp K H v (toP (rz h d)) ∧ SeqAt.shaped (toP (rz h d)) = true := by
  have fin : ∀ {d : D}, OkD 60 d → DV K ρ H d v → Dp K H v (toP d) ∧ SeqAt.shaped (toP d) = true := fun o dv => by
    obtain ⟨a, b, c⟩ := OkD.dp 60 _ v o dv
    refine ⟨a, ?_⟩
    unfold SeqAt.shaped
    rw [b, decide_eq_true (by omega)]; rfl
  cases d with
  | ref i =>
    have o' : OkD 60 (match h[i]? with | some (.lst l) => .lst l | _ => .ref i) := o
    show Dp K H v (toP (match h[i]? with | some (.lst l) => .lst l | _ => .ref i)) ∧ SeqAt.shaped (toP (match h[i]? with | some (.lst l) => .lst l | _ => .ref i)) = true
    cases q : h[i]? with
    | none => rw [q] at o'; exact o'.elim
    | some b =>
      rw [q] at o'
      cases b with
      | lst l =>
        obtain ⟨a, vs, rfl, hH, dvs⟩ := asX_at (d := .ref i) (l := l) hr dv (by show (match h[i]? with | some (.lst l) => some l | _ => none) = some l; rw [q])
        obtain ⟨b1, b2, b3⟩ := OkD.all (n := 59) (fun d v => OkD.dp 59 d v) o' dvs
        refine ⟨.lst (.of hH) b1, ?_⟩
        show (PyData.canLayAll0 (toPs l) && decide (PyData.depthAll (toPs l) + 1 ≤ 64)) = true
        rw [b2, decide_eq_true (by omega)]; rfl
      | _ => exact o'.elim
  | _ => exact fin o dv
def dEq : D2 := fun x y h Q => OkD 60 (rz h x) ∧ OkD 60 (rz h y) ∧ Q (.bl (deq (rz h x) (rz h y))) h
def dNe : D2 := fun x y h Q => OkD 60 (rz h x) ∧ OkD 60 (rz h y) ∧ Q (.bl (!deq (rz h x) (rz h y))) h
theorem L_eq {K : PySem.W.Frag} : L2ok K dEq (rEqD K) := by
  intro ρ h H x y vx vy Qd Q hr dx dy w k
  obtain ⟨o1, o2, q⟩ := w
  obtain ⟨a1, a2⟩ := rz_dp hr dx o1
  obtain ⟨b1, b2⟩ := rz_dp hr dy o2
  exact ⟨_, _, a1, b1, a2, b2, k ρ (.bl _) h _ H .refl hr rfl q⟩
theorem L_ne {K : PySem.W.Frag} : L2ok K dNe (rNeD K) := by
  intro ρ h H x y vx vy Qd Q hr dx dy w k
  obtain ⟨o1, o2, q⟩ := w
  obtain ⟨a1, a2⟩ := rz_dp hr dx o1
  obtain ⟨b1, b2⟩ := rz_dp hr dy o2
  exact ⟨_, _, a1, b1, a2, b2, k ρ (.bl _) h _ H .refl hr rfl q⟩
theorem dEq_int {i j : Int} {h : DHp} {Q : DK} (q : Q (.bl (i == j)) h) : dEq (.int i) (.int j) h Q := ⟨trivial, trivial, q⟩
theorem dNe_int {i j : Int} {h : DHp} {Q : DK} (q : Q (.bl (!(i == j))) h) : dNe (.int i) (.int j) h Q := ⟨trivial, trivial, q⟩
theorem se_eq (hu : X.A.units + 64 < cLine) (ha : SE X W a da) (hb : SE X W b db) : SE X W (.Compare a [.Eq] [b] pos) (dOp dEq da db) := se_cmp (op_eqD hu) L_eq ha hb
theorem se_ne (hu : X.A.units + 64 < cLine) (ha : SE X W a da) (hb : SE X W b db) : SE X W (.Compare a [.NotEq] [b] pos) (dOp dNe da db) := se_cmp (op_neD hu) L_ne ha hb
theorem st_eq (hu : X.A.units + 64 < cLine) (ha : SE X W a da) (hb : SE X W b db) : ST X W (.Compare a [.Eq] [b] pos) (dTst (dOp dEq da db)) := st_cmp (op_eqD hu) L_eq ha hb
theorem st_ne (hu : X.A.units + 64 < cLine) (ha : SE X W a da) (hb : SE X W b db) : ST X W (.Compare a [.NotEq] [b] pos) (dTst (dOp dNe da db)) := st_cmp (op_neD hu) L_ne ha hb

/-! ### <, <=, >, >= of ints -/
abbrev dCI (p : Int → Int → Bool) : D2 := dI0 fun i j => .bl (p i j)
theorem L_CI {K : PySem.W.Frag} {p : Int → Int → Bool} : L2ok K (dCI p) (rI0 fun i j => .bl (p i j)) := L_I0 fun _ _ _ _ => rfl
theorem se_lt (ha : SE X W a da) (hb : SE X W b db) : SE X W (.Compare a [.Lt] [b] pos) (dOp (dCI fun i j => decide (i < j)) da db) := se_cmp op_lt L_CI ha hb
theorem se_le (ha : SE X W a da) (hb : SE X W b db) : SE X W (.Compare a [.LtE] [b] pos) (dOp (dCI fun i j => decide (i ≤ j)) da db) := se_cmp op_le L_CI ha hb
theorem se_gt (ha : SE X W a da) (hb : SE X W b db) : SE X W (.Compare a [.Gt] [b] pos) (dOp (dCI fun i j => decide (j < i)) da db) := se_cmp op_gt L_CI ha hb
theorem se_ge (ha : SE X W a da) (hb : SE X W b db) : SE X W (.Compare a [.GtE] [b] pos) (dOp (dCI fun i j => decide (j ≤ i)) da db) := se_cmp op_ge L_CI ha hb
theorem st_lt (ha : SE X W a da) (hb : SE X W b db) : ST X W (.Compare a [.Lt] [b] pos) (dTst (dOp (dCI fun i j => decide (i < j)) da db)) := st_cmp op_lt L_CI ha hb
theorem st_le (ha : SE X W a da) (hb : SE X W b db) : ST X W (.Compare a [.LtE] [b] pos) (dTst (dOp (dCI fun i j => decide (i ≤ j)) da db)) := st_cmp op_le L_CI ha hb
theorem st_gt (ha : SE X W a da) (hb : SE X W b db) : ST X W (.Compare a [.Gt] [b] pos) (dTst (dOp (dCI fun i j => decide (j < i)) da db)) := st_cmp op_gt L_CI ha hb
theorem st_ge (ha : SE X W a da) (hb : SE X W b db) : ST X W (.Compare a [.GtE] [b] pos) (dTst (dOp (dCI fun i j => decide (j ≤ i)) da db)) := st_cmp op_ge L_CI ha hb
/-! ### is None -/
def isN : D → Bool
  | .non => true
  | _ => false
theorem isN_at {K : PySem.W.Frag} {ρ : List Addr} {H : Hp} {d : D} {v : V} (dv : DV K ρ H d v) : decide (v = .non) = isN d := by
  cases d with
  | non => have z : v = .non := dv; subst z; rfl
  | bl _ => have z : v = .bl _ := dv; subst z; rfl
  | int _ => have z : v = .int _ := dv; subst z; rfl
  | str _ => have z : v = .str _ := dv; subst z; rfl
  | tup _ => obtain ⟨a, _, rfl, _⟩ := dv; rfl
  | lst _ => obtain ⟨a, _, rfl, _⟩ := dv; rfl
  | fz _ => obtain ⟨a, _, rfl, _⟩ := dv; rfl
  | ref _ => obtain ⟨a, rfl, _⟩ := dv; rfl
  | obj _ _ => obtain ⟨a, _, _, rfl, _⟩ := dv; rfl
  | ty _ => have z : v = .ty _ := dv; subst z; rfl
  | cls _ => have z : v = .ref _ := dv; subst z; rfl
  | exn _ _ _ _ => obtain ⟨rfl, _⟩ := dv; rfl
def dIsN : D2 := fun x y h Q => y = .non ∧ Q (.bl (isN x)) h
def dNotN : D2 := fun x y h Q => y = .non ∧ Q (.bl (!isN x)) h
theorem L_isN {K : PySem.W.Frag} : L2ok K dIsN (fun x y H Q => y = .non ∧ Q (.bl (decide (x = .non))) H) := by
  intro ρ h H x y vx vy Qd Q hr dx dy w k
  obtain ⟨rfl, q⟩ := w
  refine ⟨dy, ?_⟩
  rw [isN_at dx]
  exact k ρ (.bl _) h _ H .refl hr rfl q
theorem L_notN {K : PySem.W.Frag} : L2ok K dNotN (fun x y H Q => y = .non ∧ Q (.bl (!decide (x = .non))) H) := by
  intro ρ h H x y vx vy Qd Q hr dx dy w k
  obtain ⟨rfl, q⟩ := w
  refine ⟨dy, ?_⟩
  rw [isN_at dx]
  exact k ρ (.bl _) h _ H .refl hr rfl q
theorem se_isN (ha : SE X W a da) (hb : SE X W b db) : SE X W (.Compare a [.Is] [b] pos) (dOp dIsN da db) := se_cmp op_isN L_isN ha hb
theorem se_notN (ha : SE X W a da) (hb : SE X W b db) : SE X W (.Compare a [.IsNot] [b] pos) (dOp dNotN da db) := se_cmp op_notN L_notN ha hb
theorem st_isN (ha : SE X W a da) (hb : SE X W b db) : ST X W (.Compare a [.Is] [b] pos) (dTst (dOp dIsN da db)) := st_cmp op_isN L_isN ha hb
theorem st_notN (ha : SE X W a da) (hb : SE X W b db) : ST X W (.Compare a [.IsNot] [b] pos) (dTst (dOp dNotN da db)) := st_cmp op_notN L_notN ha hb
/-! ### chains -/
theorem se_chn {o o' : CmpOp} {op op' : D2} {r r' : R2} (ho : OpR X (compareOp o) r) (L : L2ok X.K op r) (ho' : OpR X (compareOp o') r') (L' : L2ok X.K op' r') (ha : SE X W a da) (hb : SE X W b db) (hc : SE X W c dc)
    (h1 : lastMarks [o, o'] [b, c] = false := by with_unfolding_all rfl) : SE X W (.Compare a [o, o'] [b, c] pos) (dChn op op' da db dc) := by
  refine PE.imp (pe_chain ho ho' ha hb hc h1) fun σ H Q w => ?_
  obtain ⟨ρ, σd, h, Xd, Qd, hr, sr, w, kx, k⟩ := w
  refine lE.go hr sr w kx fun ρ1 d1 h1 v1 H1 e1 hr1 sr1 kx1 dv1 w1 => lE.go hr1 sr1 w1 kx1 fun ρ2 d2 h2 v2 H2 e2 hr2 sr2 kx2 dv2 w2 => ?_
  refine L ρ2 h2 H2 d1 d2 v1 v2 _ _ hr2 (dv1.ext e2) dv2 w2 fun ρ3 d3 h3 v3 H3 e3 hr3 dv3 w3 => ?_
  obtain ⟨b, rfl, q1, q2⟩ := w3
  refine ⟨b, dv3, ?_⟩
  cases b with
  | true =>
    refine iteT (lE.go hr3 (sr2.ext e3) (q1 rfl) (kx2.ext e3) fun ρ4 d4 h4 v4 H4 e4 hr4 sr4 kx4 dv4 w4 => ?_)
    exact L' ρ4 h4 H4 d2 d4 v2 v4 Qd Q hr4 (dv2.ext (e3.trans e4)) dv4 w4 fun ρ' d h' v H' e => k ρ' d h' v H' ((((e1.trans e2).trans e3).trans e4).trans e)
  | false => exact iteF (k ρ3 (.bl false) h3 _ H3 ((e1.trans e2).trans e3) hr3 rfl (q2 rfl))
theorem st_chn {o o' : CmpOp} {op op' : D2} {r r' : R2} (ho : OpR X (compareOp o) r) (L : L2ok X.K op r) (ho' : OpR X (compareOp o') r') (L' : L2ok X.K op' r') (ha : SE X W a da) (hb : SE X W b db) (hc : SE X W c dc)
    (h1 : lastMarks [o, o'] [b, c] = false := by with_unfolding_all rfl) : ST X W (.Compare a [o, o'] [b, c] pos) (dTst (dChn op op' da db dc)) := by
  refine PT.imp (pt_chain ho ho' ha hb hc h1) fun σ H Q w => ?_
  obtain ⟨ρ, σd, h, Xd, Qd, hr, sr, w, kx, k⟩ := w
  refine lE.go hr sr w kx fun ρ1 d1 h1 v1 H1 e1 hr1 sr1 kx1 dv1 w1 => lE.go hr1 sr1 w1 kx1 fun ρ2 d2 h2 v2 H2 e2 hr2 sr2 kx2 dv2 w2 => ?_
  refine L ρ2 h2 H2 d1 d2 v1 v2 _ _ hr2 (dv1.ext e2) dv2 w2 fun ρ3 d3 h3 v3 H3 e3 hr3 dv3 w3 => ?_
  obtain ⟨b, rfl, q1, q2⟩ := w3
  refine ⟨b, dv3, ?_⟩
  cases b with
  | true =>
    refine iteT (lE.go hr3 (sr2.ext e3) (q1 rfl) (kx2.ext e3) fun ρ4 d4 h4 v4 H4 e4 hr4 sr4 kx4 dv4 w4 => ?_)
    refine L' ρ4 h4 H4 d2 d4 v2 v4 _ _ hr4 (dv2.ext (e3.trans e4)) dv4 w4 fun ρ' d h' v H' e hr' dv q => ?_
    obtain ⟨b', rfl, q⟩ := q
    exact ⟨b', dv, k ρ' b' h' H' ((((e1.trans e2).trans e3).trans e4).trans e) hr' q⟩
  | false =>
    obtain ⟨b', e', q⟩ := q2 rfl
    cases e'
    exact iteF ⟨false, rfl, k ρ3 false h3 H3 ((e1.trans e2).trans e3) hr3 q⟩
end
end L2.MW

/-! MW, part D: statements, targets, loops. -/
namespace L2.MW
open PySem PySem.Spec PyProof.Rows

/-- what is wanted behind a statement; n0: how many changing things there were at the def's entry -/
structure DEnds where
  nx : DSt → DHp → Prop
  rt : DK
  bk : DSt → DHp → Prop := fun _ _ => False
  ct : DSt → DHp → Prop := fun _ _ => False
  ex : Exc → DSt → DHp → Prop := fun _ _ _ => False
  n0 : Nat := 0
abbrev DS := DEnds → DSt → DHp → Prop
abbrev DEnds.xx (E : DEnds) (σ : DSt) : DX := fun x h => E.ex x σ h
structure EW (K : PySem.W.Frag) (W : WX) (ρ0 : List Addr) (H0 : Hp) (E : DEnds) (Dn : Ends) : Prop where
  n0 : E.n0 = ρ0.length
  nx : ∀ ρ σd h σ H, Ext ρ0 H0 ρ H → HR K ρ h H → SR K ρ H σd σ → E.nx σd h → Dn.nx σ H
  bk : ∀ ρ σd h σ H, Ext ρ0 H0 ρ H → HR K ρ h H → SR K ρ H σd σ → E.bk σd h → Dn.bk σ H
  ct : ∀ ρ σd h σ H, Ext ρ0 H0 ρ H → HR K ρ h H → SR K ρ H σd σ → E.ct σd h → Dn.ct σ H
  rt : ∀ ρ d h v H, Ext ρ0 H0 ρ H → HR K ρ h H → DV K ρ H d v → E.rt d h → Dn.rt v H
  ex : ∀ ρ x σd h cls d σ H, Ext ρ0 H0 ρ H → HR K ρ h H → SR K ρ H σd σ → ExcAt K ρ H x cls d → E.ex x σd h → W cls d σ H
def lS (K : PySem.W.Frag) (W : WX) (t : DS) : TS := fun Dn σ H => ∃ ρ0 H0 ρ σd h E, Ext ρ0 H0 ρ H ∧ HR K ρ h H ∧ SR K ρ H σd σ ∧ t E σd h ∧ EW K W ρ0 H0 E Dn
abbrev SS (X : Cx) (W : WX) (st : List Stmt) (t : DS) : Prop := PSs X st (lS X.K W t)
abbrev S1 (X : Cx) (W : WX) (st : Stmt) (t : DS) : Prop := PS X st (lS X.K W t)
theorem EW.xw {K : PySem.W.Frag} {W : WX} {ρ0 ρ : List Addr} {H0 H : Hp} {E : DEnds} {Dn : Ends} {σd : DSt} {σ : St} (k : EW K W ρ0 H0 E Dn) (e : Ext ρ0 H0 ρ H) : XW K W ρ H σd σ (E.xx σd) :=
  fun ρ' x h' cls d H' e' hr' sr' ea w => k.ex ρ' x σd h' cls d σ H' (e.trans e') hr' sr' ea w

section
variable {X : Cx} {W : WX} {pos : Pos}
def sNil : DS := fun E σ h => E.nx σ h
def sSeq (t u : DS) : DS := fun E σ h => t { E with nx := u E } σ h
theorem ss_nil : SS X W [] sNil := PSs.imp pss_nil fun Dn σ H w => by
  obtain ⟨ρ0, H0, ρ, σd, h, E, e, hr, sr, w, k⟩ := w
  exact k.nx ρ σd h σ H e hr sr w
theorem ss_cons {st : Stmt} {rest : List Stmt} {t u : DS} (h1 : S1 X W st t) (h2 : SS X W rest u) : SS X W (st :: rest) (sSeq t u) := PSs.imp (pss_cons h1 h2) fun Dn σ H w => by
  obtain ⟨ρ0, H0, ρ, σd, h, E, e, hr, sr, w, k⟩ := w
  exact ⟨ρ0, H0, ρ, σd, h, _, e, hr, sr, w, ⟨k.n0, fun ρ' σd' h' σ' H' e' hr' sr' q => ⟨ρ0, H0, ρ', σd', h', E, e', hr', sr', q, k⟩, k.bk, k.ct, k.rt, k.ex⟩⟩
theorem ss_one {st : Stmt} {t : DS} (h1 : S1 X W st t) : SS X W [st] t := pss_one h1
theorem s1_pass : S1 X W (.Pass pos) sNil := PS.imp ps_pass fun Dn σ H w => by
  obtain ⟨ρ0, H0, ρ, σd, h, E, e, hr, sr, w, k⟩ := w
  exact k.nx ρ σd h σ H e hr sr w
def sBrk : DS := fun E σ h => E.bk σ h
def sCont : DS := fun E σ h => E.ct σ h
theorem s1_break : S1 X W (.Break pos) sBrk := PS.imp ps_break fun Dn σ H w => by
  obtain ⟨ρ0, H0, ρ, σd, h, E, e, hr, sr, w, k⟩ := w
  exact k.bk ρ σd h σ H e hr sr w
theorem s1_continue : S1 X W (.Continue pos) sCont := PS.imp ps_continue fun Dn σ H w => by
  obtain ⟨ρ0, H0, ρ, σd, h, E, e, hr, sr, w, k⟩ := w
  exact k.ct ρ σd h σ H e hr sr w
variable {e a b : Expr} {de da db : DE}
def sExpr (de : DE) : DS := fun E σ h => de σ h (E.xx σ) fun _ h1 => E.nx σ h1
theorem s1_expr (he : SE X W e de) (hs : swapsWith e none pos.line X.env = pure false := by rfl) : S1 X W (.Expr e pos) (sExpr de) := PS.imp (ps_expr he hs) fun Dn σ H w => by
  obtain ⟨ρ0, H0, ρ, σd, h, E, e0, hr, sr, w, k⟩ := w
  exact lE.go hr sr w (k.xw e0) fun ρ1 d1 h1 v1 H1 e1 hr1 sr1 kx1 dv1 q => k.nx ρ1 σd h1 σ H1 (e0.trans e1) hr1 sr1 q
def sRet (de : DE) : DS := fun E σ h => de σ h (E.xx σ) E.rt
theorem s1_ret (he : SE X W e de) : S1 X W (.Return (some e) pos) (sRet de) := PS.imp (ps_ret he) fun Dn σ H w => by
  obtain ⟨ρ0, H0, ρ, σd, h, E, e0, hr, sr, w, k⟩ := w
  exact lE.go hr sr w (k.xw e0) fun ρ1 d1 h1 v1 H1 e1 hr1 sr1 kx1 dv1 q => k.rt ρ1 d1 h1 v1 H1 (e0.trans e1) hr1 dv1 q
def sRetN : DS := fun E _ h => E.rt .non h
theorem s1_retN : S1 X W (.Return none pos) sRetN := PS.imp ps_retN fun Dn σ H w => by
  obtain ⟨ρ0, H0, ρ, σd, h, E, e0, hr, sr, w, k⟩ := w
  exact k.rt ρ .non h .non H e0 hr rfl w
def sIf (c : DT) (t u : DS) : DS := fun E σ h => c σ h (E.xx σ) fun b h1 => (b = true → t E σ h1) ∧ (b = false → u E σ h1)
theorem s1_if {c : Expr} {tc : DT} {sa sb : List Stmt} {t u : DS} (hc : ST X W c tc) (ha : SS X W sa t) (hb : SS X W sb u) : S1 X W (.If c sa sb pos) (sIf tc t u) := PS.imp (ps_if hc ha hb) fun Dn σ H w => by
  obtain ⟨ρ0, H0, ρ, σd, h, E, e0, hr, sr, w, k⟩ := w
  refine lT.go hr sr w (k.xw e0) fun ρ1 b1 h1 H1 e1 hr1 sr1 kx1 q => ?_
  cases b1 with
  | true => exact iteT ⟨ρ0, H0, ρ1, σd, h1, E, e0.trans e1, hr1, sr1, q.1 rfl, k⟩
  | false => exact iteF ⟨ρ0, H0, ρ1, σd, h1, E, e0.trans e1, hr1, sr1, q.2 rfl, k⟩
/-- never reached -/
def sNever : DS := fun _ _ _ => False
theorem s1_never {st : Stmt} : S1 X W st sNever := PS.imp ps_never fun Dn σ H w => by
  obtain ⟨ρ0, H0, ρ, σd, h, E, e, hr, sr, w, k⟩ := w
  exact w
theorem ss_never {st : List Stmt} : SS X W st sNever := PSs.imp pss_never fun Dn σ H w => by
  obtain ⟨ρ0, H0, ρ, σd, h, E, e, hr, sr, w, k⟩ := w
  exact w

/-! ### targets -/
abbrev DG := D → DSt → DHp → DX → (DSt → DHp → Prop) → Prop

/-- only these slots changed -/
def Only (T : List Nat) (σ σ' : St) : Prop := σ'.length = σ.length ∧ ∀ i, i ∉ T → σ'[i]? = σ[i]?
theorem Only.refl {T : List Nat} {σ : St} : Only T σ σ := ⟨rfl, fun _ _ => rfl⟩
theorem Only.set {T : List Nat} {σ : St} {i : Nat} {o : Option V} (h : i ∈ T) : Only T σ (σ.set i o) := ⟨List.length_set, fun j hj => List.getElem?_set_ne (fun (z : i = j) => hj (by rw [← z]; exact h))⟩
theorem Only.trans {T : List Nat} {a b c : St} (h : Only T a b) (k : Only T b c) : Only T a c := ⟨k.1.trans h.1, fun i hi => (k.2 i hi).trans (h.2 i hi)⟩
theorem Only.mono {T U : List Nat} {a b : St} (h : Only T a b) (s : ∀ i ∈ T, i ∈ U) : Only U a b := ⟨h.1, fun i hi => h.2 i fun z => hi (s i z)⟩
def lG (K : PySem.W.Frag) (W : WX) (T : List Nat) (t : DG) : TG := fun v σ H Q => ∃ ρ σd h Xd Qd d, HR K ρ h H ∧ SR K ρ H σd σ ∧ DV K ρ H d v ∧ t d σd h Xd Qd ∧ XW K W ρ H σd σ Xd ∧
  ∀ ρ' σd' h' σ' H', Ext ρ H ρ' H' → HR K ρ' h' H' → SR K ρ' H' σd' σ' → Only T σ σ' → Qd σd' h' → Q σ' H'
abbrev SG (X : Cx) (W : WX) (T : List Nat) (tg : Expr) (t : DG) : Prop := PG X tg (lG X.K W T t)
theorem PG.imp {tg : Expr} {t t' : TG} (h : PG X tg t) (i : ∀ v σ H Q, t' v σ H Q → t v σ H Q) : PG X tg t' := ⟨fun pins s σ H v u Q I r w => h.run pins s σ H v u Q I r (i v σ H Q w)⟩
def tgN (i : Nat) : DG := fun d σ h _ Q => Q (σ.set i (some d)) h
theorem sg_name {i : Nat} {x : Str} (hN : X.N.Nodup) (hi : X.N[i]? = some x := by rfl) (hx : Loc X.env.scope x := by first | exact Or.inl rfl | exact Or.inr rfl)
    (hf : X.fn x = true ∨ X.env.scope.names.lookup x = some .local := by first | exact .inl rfl | exact .inr rfl | assumption) : SG X W [i] (.Name x pos) (tgN i) := PG.imp (pg_name hN hi hx hf) fun v σ H Q w => by
  obtain ⟨ρ, σd, h, Xd, Qd, d, hr, sr, dv, w, kx, k⟩ := w
  exact k ρ _ h _ H .refl hr (sr.set dv) (.set List.mem_cons_self) w
/-- several targets -/
abbrev DGs := List D → DSt → DHp → DX → (DSt → DHp → Prop) → Prop
def lGs (K : PySem.W.Frag) (W : WX) (T : List Nat) (t : DGs) : TGs := fun vs σ H Q => ∃ ρ σd h Xd Qd ds, HR K ρ h H ∧ SR K ρ H σd σ ∧ DVs K ρ H ds vs ∧ t ds σd h Xd Qd ∧
  ∀ ρ' σd' h' σ' H', Ext ρ H ρ' H' → HR K ρ' h' H' → SR K ρ' H' σd' σ' → Only T σ σ' → Qd σd' h' → Q σ' H'
abbrev SGs (X : Cx) (W : WX) (T : List Nat) (tg : List Expr) (t : DGs) : Prop := PGs X tg (lGs X.K W T t)
def tgsNil : DGs := fun ds σ h _ Q => ds = [] ∧ Q σ h
def tgsCons (t : DG) (u : DGs) : DGs := fun ds σ h X Q => ∃ d r, ds = d :: r ∧ t d σ h (fun _ _ => False) fun σ' h' => u r σ' h' X Q
theorem PGs.imp {tg : List Expr} {t t' : TGs} (h : PGs X tg t) (i : ∀ v σ H Q, t' v σ H Q → t v σ H Q) : PGs X tg t' := ⟨fun pins s σ H v u Q I r w => h.run pins s σ H v u Q I r (i v σ H Q w)⟩
theorem sgs_nil {T : List Nat} : SGs X W T [] tgsNil := PGs.imp pgs_nil fun vs σ H Q w => by
  obtain ⟨ρ, σd, h, Xd, Qd, ds, hr, sr, dv, ⟨rfl, w⟩, k⟩ := w
  exact ⟨dv, k ρ _ h _ H .refl hr sr .refl w⟩
theorem sgs_cons {T U : List Nat} {tg : Expr} {tgs : List Expr} {t : DG} {u : DGs} (h1 : SG X W T tg t) (h2 : SGs X W U tgs u)
    (hq : (assignEach (tg :: tgs) X.env).map (·.2) = assign tg X.env :: (assignEach tgs X.env).map (·.2) := by rfl) : SGs X W (T ++ U) (tg :: tgs) (tgsCons t u) := PGs.imp (pgs_cons h1 h2 hq) fun vs σ H Q w => by
  obtain ⟨ρ, σd, h, Xd, Qd, ds, hr, sr, dv, ⟨d, r, rfl, w⟩, k⟩ := w
  obtain ⟨v, vr, rfl, dv1, dv2⟩ := dv
  refine ⟨v, vr, rfl, ρ, σd, h, _, _, d, hr, sr, dv1, w, fun _ _ _ _ _ _ _ _ _ _ z => z.elim, fun ρ1 σd1 h1 σ1 H1 e1 hr1 sr1 on1 q => ?_⟩
  exact ⟨ρ1, σd1, h1, Xd, Qd, r, hr1, sr1, DVs.ext e1 _ _ dv2, q, fun ρ' σd' h' σ' H' e hr' sr' on' => k ρ' σd' h' σ' H' (e1.trans e) hr' sr' ((on1.mono fun _ z => List.mem_append_left _ z).trans (on'.mono fun _ z => List.mem_append_right _ z))⟩

/-- (a, b, ..) = a tuple -/
def tgTup (n : Nat) (u : DGs) : DG := fun d σ h X Q => ∃ l, d = .tup l ∧ l.length = n ∧ u l σ h X Q
theorem sg_tup {T : List Nat} {es : List Expr} {k n : Nat} {u : DGs} (hc : X.calm = true) (hu : SGs X W T es u) (hn : (assignEach es X.env).length = n := by rfl) (hst : (assignEach es X.env).findIdx? (·.1) = none := by rfl) :
    SG X W T (.Tuple es k pos) (tgTup n u) := PG.imp (pg_tup hc hu hn hst) fun v σ H Q w => by
  obtain ⟨ρ, σd, h, Xd, Qd, d, hr, sr, dv, ⟨l, rfl, hl, w⟩, kx, k⟩ := w
  obtain ⟨a, vs, rfl, h1, h2⟩ := dv
  exact ⟨a, vs, rfl, h1.sq, by rw [h2.length]; exact hl, ρ, σd, h, Xd, Qd, l, hr, sr, h2, w, k⟩
/-- o[i] = d, o a list that changes -/
def tgSub (dd di : DE) : DG := fun d σ h X Q => dd σ h X fun x h1 => di σ h1 X fun y h2 => ∃ j l k n, x = .ref j ∧ y = .int k ∧ h2[j]? = some (.lst l) ∧ ixN l.length k = some n ∧ Q σ (h2.set j (.lst (l.set n d)))
theorem ref_lst {K : PySem.W.Frag} {ρ : List Addr} {h : DHp} {H : Hp} {j : Nat} {l : List D} {v : V} (hr : HR K ρ h H) (dv : DV K ρ H (.ref j) v) (e : h[j]? = some (.lst l)) : ∃ a vs, v = .ref a ∧ ρ[j]? = some a ∧ H a = some (.lst vs) ∧ DVs K ρ H l vs := by
  obtain ⟨a, rfl, hj⟩ := dv
  obtain ⟨vs, h1, h2⟩ := hr.at_ j _ a e hj
  exact ⟨a, vs, rfl, hj, h1, h2⟩
/-- a changing list is written -/
theorem write_lst {K : PySem.W.Frag} {ρ : List Addr} {h : DHp} {H : Hp} {j : Nat} {l : List D} {a : Addr} {vs : List V} (hr : HR K ρ h H) (hj : ρ[j]? = some a) (d : DVs K ρ H l vs) :
    HR K ρ (h.set j (.lst l)) (upd H a (.lst vs)) ∧ Ext ρ H ρ (upd H a (.lst vs)) := by
  have e : Ext ρ H ρ (upd H a (.lst vs)) := .write (List.mem_of_getElem? hj)
  exact ⟨hr.write hj ⟨vs, upd_same, DVs.ext e _ _ d⟩, e⟩
theorem sg_sub {o i : Expr} {dd di : DE} (ho : SE X W o dd) (hi : SE X W i di) (ha : ∀ v, assign (.Subscript o i pos) X.env v = (do
      let ov ← holding [v] (eval o X.env)
      let iv ← holding [v, ov] (eval i X.env)
      standAt pos
      holding [v, ov, iv] (setItem ov iv v)
      release [v, ov, iv] []) := by intros; rfl) : SG X W [] (.Subscript o i pos) (tgSub dd di) := PG.imp (pg_sub ho hi set_list ha) fun v σ H Q w => by
  obtain ⟨ρ, σd, h, Xd, Qd, d, hr, sr, dv, w, kx, k⟩ := w
  refine lE.go hr sr w kx fun ρ1 d1 h1 v1 H1 e1 hr1 sr1 kx1 dv1 w1 => lE.go hr1 sr1 w1 kx1 fun ρ2 d2 h2 v2 H2 e2 hr2 sr2 kx2 dv2 w2 => ?_
  obtain ⟨j, l, kk, n, rfl, rfl, hj, hn, q⟩ := w2
  obtain ⟨a, vs, rfl, hja, hH, dvs⟩ := ref_lst hr2 (dv1.ext e2) hj
  refine ⟨a, vs, kk, n, rfl, dv2, hH, by rw [dvs.length]; exact hn, ?_⟩
  obtain ⟨a1, a2⟩ := write_lst hr2 hja (dvs.set (dv.ext (e1.trans e2)) n)
  exact k ρ2 _ _ _ _ ((e1.trans e2).trans a2) a1 (sr2.ext a2) .refl q

/-! ### assignments -/
def sSet (i : Nat) (de : DE) : DS := fun E σ h => de σ h (E.xx σ) fun d h1 => E.nx (σ.set i (some d)) h1
theorem s1_set (i : Nat) {x : Str} {pos' : Pos} (hN : X.N.Nodup) (he : SE X W e de) (hi : X.N[i]? = some x := by rfl) (hx : Loc X.env.scope x := by first | exact Or.inl rfl | exact Or.inr rfl) (hs : swapsWith e (some (.Name x pos')) pos.line X.env = pure false := by rfl)
    (hf : X.fn x = true ∨ X.env.scope.names.lookup x = some .local := by first | exact .inl rfl | exact .inr rfl | assumption) : S1 X W (.Assign [.Name x pos'] e pos) (sSet i de) := PS.imp (ps_set hN hi hx he hs hf) fun Dn σ H w => by
  obtain ⟨ρ0, H0, ρ, σd, h, E, e0, hr, sr, w, k⟩ := w
  exact lE.go hr sr w (k.xw e0) fun ρ1 d1 h1 v1 H1 e1 hr1 sr1 kx1 dv1 q => k.nx ρ1 _ h1 _ H1 (e0.trans e1) hr1 (sr1.set dv1) q
def sAsg (de : DE) (g : DG) : DS := fun E σ h => de σ h (E.xx σ) fun d h1 => g d σ h1 (E.xx σ) E.nx
theorem s1_asg {T : List Nat} {tg : Expr} {g : DG} (he : SE X W e de) (hg : SG X W T tg g) (hs : swapsWithSole [tg] e pos.line X.env = pure false := by rfl) (hw : swappedStores [tg] e X.env = pure none := by rfl)
    (h1 : (assignEach [tg] X.env).map (·.2) = [assign tg X.env] := by rfl) : S1 X W (.Assign [tg] e pos) (sAsg de g) := PS.imp (ps_asg he hg hs hw h1) fun Dn σ H w => by
  obtain ⟨ρ0, H0, ρ, σd, h, E, e0, hr, sr, w, k⟩ := w
  refine lE.go hr sr w (k.xw e0) fun ρ1 d1 h1 v1 H1 e1 hr1 sr1 kx1 dv1 q => ?_
  exact ⟨ρ1, σd, h1, _, _, d1, hr1, sr1, dv1, q, kx1, fun ρ' σd' h' σ' H' e' hr' sr' _ q => k.nx ρ' σd' h' σ' H' ((e0.trans e1).trans e') hr' sr' q⟩
/-- a, b = x, y -/
def sPar (i j : Nat) (ts : DA) : DS := fun E σ h => ts σ h (E.xx σ) fun ds h1 => ∃ c d, ds = [c, d] ∧ E.nx ((σ.set i (some c)).set j (some d)) h1
/-- x op= e -/
def sAug (i : Nat) (de : DE) (op : D2) : DS := fun E σ h => ∃ c, σ[i]? = some (some c) ∧ de σ h (E.xx σ) fun d h1 => op c d h1 fun z h2 => E.nx (σ.set i (some z)) h2
theorem s1_augI (i : Nat) {x : Str} {pos' : Pos} {o : Operator} {tip : TIp} {op : D2} (L : L2ok X.K op tip) (hN : X.N.Nodup) (ho : PIp X o tip) (he : SE X W e de) (hi : X.N[i]? = some x := by rfl) (hx : Loc X.env.scope x := by first | exact Or.inl rfl | exact Or.inr rfl)
    (hf : X.fn x = true ∨ X.env.scope.names.lookup x = some .local := by first | exact .inl rfl | exact .inr rfl | assumption) : S1 X W (.AugAssign (.Name x pos') o e pos) (sAug i de op) := PS.imp (ps_aug hN hi hx he ho hf) fun Dn σ H w => by
  obtain ⟨ρ0, H0, ρ, σd, h, E, e0, hr, sr, w, k⟩ := w
  obtain ⟨c, hc, w⟩ := w
  obtain ⟨v, hv, dv⟩ := sr.at_ i c hc
  refine ⟨v, hv, lE.go hr sr w (k.xw e0) fun ρ1 d1 h1 v1 H1 e1 hr1 sr1 kx1 dv1 q => ?_⟩
  exact L ρ1 h1 H1 c d1 v v1 _ _ hr1 (dv.ext e1) dv1 q fun ρ2 d2 h2 v2 H2 e2 hr2 dv2 q2 => k.nx ρ2 _ h2 _ H2 ((e0.trans e1).trans e2) hr2 ((sr1.ext e2).set dv2) q2
theorem ip_bor : PIp X .BitOr (rI0 fun i j => .int (Builtin.bitOr i j)) := by
  intro pins s σ H x y v u Q I r1 r2 h
  exact iop_or pins s σ H x y v u Q I r1 r2 h
theorem ip_add0 : PIp X .Add (rI0 fun i j => .int (i + j)) := by
  intro pins s σ H x y v u Q I r1 r2 h
  exact iop_add pins s σ H x y v u Q I r1 r2 h
theorem s1_aadd (i : Nat) {x : Str} {pos' : Pos} (hN : X.N.Nodup) (he : SE X W e de) (hi : X.N[i]? = some x := by rfl) (hx : Loc X.env.scope x := by first | exact Or.inl rfl | exact Or.inr rfl)
    (hf : X.fn x = true ∨ X.env.scope.names.lookup x = some .local := by first | exact .inl rfl | exact .inr rfl | assumption) : S1 X W (.AugAssign (.Name x pos') .Add e pos) (sAug i de (dI0 fun i j => .int (i + j))) :=
  s1_augI i (tip := rI0 fun i j => .int (i + j)) (L_I0 fun _ _ _ _ => rfl) hN ip_add0 he hi hx hf
theorem s1_abor (i : Nat) {x : Str} {pos' : Pos} (hN : X.N.Nodup) (he : SE X W e de) (hi : X.N[i]? = some x := by rfl) (hx : Loc X.env.scope x := by first | exact Or.inl rfl | exact Or.inr rfl)
    (hf : X.fn x = true ∨ X.env.scope.names.lookup x = some .local := by first | exact .inl rfl | exact .inr rfl | assumption) : S1 X W (.AugAssign (.Name x pos') .BitOr e pos) (sAug i de (dI0 fun i j => .int (Builtin.bitOr i j))) :=
  s1_augI i (tip := rI0 fun i j => .int (Builtin.bitOr i j)) (L_I0 fun _ _ _ _ => rfl) hN ip_bor he hi hx hf
/-- self.f = e, in a making -/
def putD (f : Str) (d : D) : List (Str × D) → List (Str × D)
  | [] => [(f, d)]
  | p :: r => if p.1 = f then (p.1, d) :: r else p :: putD f d r
def sFldD (cs : List String) (f : Str) (da dv : DE) : DS := fun E σ h => dv σ h (E.xx σ) fun d h1 => da σ h1 (E.xx σ) fun x h2 => ∃ i c fs, c ∈ cs ∧ x = .ref i ∧ h2[i]? = some (.ins c fs) ∧ fs.length < 1000 ∧ fs.lookup f = none ∧ E.nx σ (h2.set i (.ins c (fs ++ [(f, d)])))
theorem putF_new (f : Str) (v : V) : ∀ fs : List (Str × V), fs.lookup f = none → putF f v fs = fs ++ [(f, v)]
  | [], _ => rfl
  | (g, w) :: r, h => by
    rw [List.lookup_cons] at h
    have hg : ¬ (g = f) := fun z => by subst z; simp at h
    have h2 : r.lookup f = none := by
      cases q : f == g with
      | true => rw [q] at h; cases h
      | false => rw [q] at h; exact h
    have ih := putF_new f v r h2
    simp only [putF, List.cons_append]
    first
      | rw [if_neg hg, ih]
      | (rw [if_neg (fun z => hg z.symm), ih])
      | (simp [hg, ih])
theorem DFs.append1 {K : PySem.W.Frag} {ρ : List Addr} {H : Hp} {f : Str} {d : D} {v : V} (q : DV K ρ H d v) : ∀ {fs : List (Str × D)} {ws : List (Str × V)}, DFs K ρ H fs ws → DFs K ρ H (fs ++ [(f, d)]) (ws ++ [(f, v)])
  | [], _, h => by rw [show _ = [] from h]; exact ⟨v, [], rfl, q, rfl⟩
  | p :: fs, _, ⟨u, r, e1, h1, h2⟩ => by subst e1; exact ⟨u, r ++ _, rfl, h1, DFs.append1 q h2⟩
theorem s1_fld {cs : List String} {f : Str} {pos' : Pos} (hf : FldOk X.K cs f) (ha : SE X W a da) (hv : SE X W b db) (hs : swapsWith b (some (.Attribute a f pos')) pos.line X.env = pure false := by rfl) : S1 X W (.Assign [.Attribute a f pos'] b pos) (sFldD cs f da db) := PS.imp (ps_fld ha hv hs) fun Dn σ H w => by
  obtain ⟨ρ0, H0, ρ, σd, h, E, e0, hr, sr, w, k⟩ := w
  refine lE.go hr sr w (k.xw e0) fun ρ1 d1 h1 v1 H1 e1 hr1 sr1 kx1 dv1 w1 => lE.go hr1 sr1 w1 kx1 fun ρ2 d2 h2 v2 H2 e2 hr2 sr2 kx2 dv2 w2 => ?_
  obtain ⟨i, c, fs, hc, rfl, hi, hl, hn, q⟩ := w2
  obtain ⟨hcl, hna⟩ := hf c hc
  obtain ⟨p, rfl, hp⟩ := dv2
  obtain ⟨dx, ws, hH, dfs⟩ := hr2.at_ i _ p hi hp
  have hl' := dfs.length
  refine ⟨p, _, dx, ws, rfl, hH, hcl, hna, by omega, ?_⟩
  rw [putF_new f v1 ws (dfs.lookup_none hn)]
  have ee : Ext ρ2 H2 ρ2 (upd H2 p (.ins (He.ga X.K (Str.ofString c)) dx (ws ++ [(f, v1)]))) := .write (List.mem_of_getElem? hp)
  exact k.nx ρ2 _ _ _ _ (((e0.trans e1).trans e2).trans ee) (hr2.write (b := .ins c (fs ++ [(f, d1)])) hp ⟨dx, _, upd_same, DFs.ext ee _ _ (dfs.append1 (dv1.ext e2))⟩) (sr2.ext ee) q

/-! ### loops -/
/-- what is walked: the items, and what must hold of the changing heap at every turn -/
abbrev DI := DSt → DHp → DX → (List D → (DHp → Prop) → DHp → Prop) → Prop
def ItAt (K : PySem.W.Frag) (ρ0 : List Addr) (H0 : Hp) (items : List D) (G : DHp → Prop) (J : It) : Prop := ∀ ρ h H i, Ext ρ0 H0 ρ H → HR K ρ h H → G h →
  (∀ d, items[i]? = some d → J.go i H ∧ ∀ v H', J.yld i H v H' → Ext ρ H ρ H' ∧ HR K ρ h H' ∧ DV K ρ H' d v) ∧ (items.length ≤ i → J.stop i H)
def lI (K : PySem.W.Frag) (W : WX) (t : DI) : TI := fun σ H R => ∃ ρ σd h Xd Qd, HR K ρ h H ∧ SR K ρ H σd σ ∧ t σd h Xd Qd ∧ XW K W ρ H σd σ Xd ∧
  ∀ ρ' items G h' J H', Ext ρ H ρ' H' → HR K ρ' h' H' → ItAt K ρ' H' items G J → Qd items G h' → R J H'
abbrev SI (X : Cx) (W : WX) (tg e : Expr) (t : DI) : Prop := PI X tg e (lI X.K W t)
theorem PI.imp {tg e : Expr} {t t' : TI} (h : PI X tg e t) (i : ∀ σ H Q, t' σ H Q → t σ H Q) : PI X tg e t' := ⟨fun pins s σ H Q I w => h.run pins s σ H Q I (i σ H Q w)⟩
theorem lI.go {K : PySem.W.Frag} {W : WX} {ρ : List Addr} {σd : DSt} {h : DHp} {H : Hp} {σ : St} {t : DI} {Xd : DX} {Qd : List D → (DHp → Prop) → DHp → Prop} {R : It → Hp → Prop} (hr : HR K ρ h H) (sr : SR K ρ H σd σ) (w : t σd h Xd Qd) (kx : XW K W ρ H σd σ Xd)
    (k : ∀ ρ' items G h' J H', Ext ρ H ρ' H' → HR K ρ' h' H' → SR K ρ' H' σd σ → XW K W ρ' H' σd σ Xd → ItAt K ρ' H' items G J → Qd items G h' → R J H') : lI K W t σ H R :=
  ⟨ρ, σd, h, Xd, Qd, hr, sr, w, kx, fun ρ' items G h' J H' e hr' it q => k ρ' items G h' J H' e hr' (sr.ext e) (kx.ext e) it q⟩
def forW (tb : DS) (g : DG) (G : DHp → Prop) (E : DEnds) : List D → DSt → DHp → Prop
  | [], σ, h => G h ∧ E.nx σ h
  | x :: xs, σ, h => G h ∧ g x σ h (E.xx σ) fun σ' h' => tb { E with nx := forW tb g G E xs, ct := forW tb g G E xs, bk := E.nx } σ' h'
def sFor (ti : DI) (g : DG) (tb : DS) : DS := fun E σ h => ti σ h (E.xx σ) fun items G h1 => forW tb g G { E with n0 := h1.length } items σ h1
theorem forW_G {tb : DS} {g : DG} {G : DHp → Prop} {E : DEnds} {xs : List D} {σ : DSt} {h : DHp} (w : forW tb g G E xs σ h) : G h := by
  cases xs <;> exact w.1
theorem s1_for {T : List Nat} {tg iter : Expr} {body : List Stmt} {ti : DI} {g : DG} {tb : DS} (hp : PassesOwn (model X.prog X.w) X.A X.env X.xe) (hc : X.calm = true) (hi : SI X W tg iter ti) (hg : SG X W T tg g) (hb : SS X W body tb)
    (hs : ∀ x, foldedSetIterable iter X.env x = pure x := by intro _; rfl) : S1 X W (.For tg iter body [] pos) (sFor ti g tb) := by
  refine PS.imp (ps_for hp hc hi hg hb hs) fun Dn σ H w => ?_
  obtain ⟨ρ0, H0, ρ, σd, h, E, e0, hr, sr, w, k⟩ := w
  refine lI.go hr sr w (k.xw e0) fun ρ1 items G h1 J H1 e1 hr1 sr1 kx1 it w1 => ?_
  have e01 := e0.trans e1
  refine ⟨fun i m σ H => m = items.length - i ∧ i ≤ items.length ∧ ∃ ρ2 σd2 h2, Ext ρ1 H1 ρ2 H ∧ HR X.K ρ2 h2 H ∧ SR X.K ρ2 H σd2 σ ∧ forW tb g G { E with n0 := h1.length } (items.drop i) σd2 h2, ⟨items.length, rfl, Nat.zero_le _, ρ1, σd, h1, .refl, hr1, sr1, w1⟩, ?_⟩
  rintro i m σ2 H2 ⟨rfl, hi, ρ2, σd2, h2, e12, hr2, sr2, w2⟩
  obtain ⟨itg, its⟩ := it ρ2 h2 H2 i e12 hr2 (forW_G w2)
  by_cases hlt : i < items.length
  · refine .inr ?_
    obtain ⟨go, yl⟩ := itg _ (List.getElem?_eq_getElem hlt)
    rw [List.drop_eq_getElem_cons hlt] at w2
    have w2' := w2.2
    refine ⟨go, fun σ' H' => ∃ ρ3 σd3 h3, Ext ρ1 H1 ρ3 H' ∧ HR X.K ρ3 h3 H' ∧ SR X.K ρ3 H' σd3 σ' ∧ forW tb g G { E with n0 := h1.length } (items.drop (i + 1)) σd3 h3, fun σ' H' n => ⟨items.length - (i + 1), by omega, rfl, hlt, n⟩, fun x H' y => ?_⟩
    obtain ⟨ey, hry, dvy⟩ := yl x H' y
    refine ⟨ρ2, σd2, h2, _, _, _, hry, sr2.ext ey, dvy, w2', k.xw ((e01.trans e12).trans ey), fun ρ3 σd3 h3 σ3 H3 e3 hr3 sr3 _ w3 => ?_⟩
    have e13 : Ext ρ1 H1 ρ3 H3 := (e12.trans ey).trans e3
    refine ⟨ρ1, H1, ρ3, σd3, h3, _, e13, hr3, sr3, w3, ⟨hr1.len.symm, ?_, ?_, ?_, ?_, ?_⟩⟩
    · exact fun ρ4 σd4 h4 σ4 H4 e4 hr4 sr4 q4 => ⟨ρ4, σd4, h4, e4, hr4, sr4, q4⟩
    · exact fun ρ4 σd4 h4 σ4 H4 e4 hr4 sr4 q4 => k.nx ρ4 σd4 h4 σ4 H4 (e01.trans e4) hr4 sr4 q4
    · exact fun ρ4 σd4 h4 σ4 H4 e4 hr4 sr4 q4 => ⟨ρ4, σd4, h4, e4, hr4, sr4, q4⟩
    · exact fun ρ4 d4 h4 v4 H4 e4 => k.rt ρ4 d4 h4 v4 H4 (e01.trans e4)
    · exact fun ρ4 x4 σd4 h4 c4 d4 σ4 H4 e4 => k.ex ρ4 x4 σd4 h4 c4 d4 σ4 H4 (e01.trans e4)
  · exact .inl ⟨its (Nat.le_of_not_lt hlt), by
      rw [List.drop_eq_nil_of_le (Nat.le_of_not_lt hlt)] at w2
      exact k.nx ρ2 σd2 h2 σ2 H2 (e01.trans e12) hr2 sr2 w2.2⟩

/-! ### what is walked -/
theorem it_list {K : PySem.W.Frag} {ρ0 : List Addr} {H0 : Hp} {a : Addr} {l : List D} {G : DHp → Prop} (hq : ∀ ρ h H, Ext ρ0 H0 ρ H → HR K ρ h H → G h → ∃ vs, SqL K H a vs ∧ DVs K ρ H l vs) : ItAt K ρ0 H0 l G (Itl K a) := by
  intro ρ h H i e hr g
  obtain ⟨vs, q, dvs⟩ := hq ρ h H e hr g
  refine ⟨fun d hd => ?_, fun hl => ⟨vs, q, by rw [dvs.length]; exact hl⟩⟩
  obtain ⟨v, hv, dv⟩ := dvs.get hd
  refine ⟨⟨vs, v, q, hv⟩, fun u H' y => ?_⟩
  obtain ⟨rfl, y⟩ := y
  have z := y vs q
  rw [hv] at z; cases z
  exact ⟨.refl, hr, dv⟩
theorem it_tup {K : PySem.W.Frag} {ρ0 : List Addr} {H0 : Hp} {a : Addr} {l : List D} {G : DHp → Prop} (hq : ∀ ρ h H, Ext ρ0 H0 ρ H → HR K ρ h H → G h → ∃ vs, SqT K H a vs ∧ DVs K ρ H l vs) : ItAt K ρ0 H0 l G (Itt K a) := by
  intro ρ h H i e hr g
  obtain ⟨vs, q, dvs⟩ := hq ρ h H e hr g
  refine ⟨fun d hd => ?_, fun hl => ⟨vs, q, by rw [dvs.length]; exact hl⟩⟩
  obtain ⟨v, hv, dv⟩ := dvs.get hd
  refine ⟨⟨vs, v, q, hv⟩, fun u H' y => ?_⟩
  obtain ⟨rfl, y⟩ := y
  have z := y vs q
  rw [hv] at z; cases z
  exact ⟨.refl, hr, dv⟩
/-- a list's guard: a changing one must stand -/
def gdL (d : D) (l : List D) : DHp → Prop := fun h => asL h d = some l
/-- a list -/
def iL (de : DE) : DI := fun σ h X Q => de σ h X fun d h1 => ∃ l, asL h1 d = some l ∧ Q l (gdL d l) h1
def iT (de : DE) : DI := fun σ h X Q => de σ h X fun d h1 => ∃ l, d = .tup l ∧ Q l (fun _ => True) h1
/-- range(lo, lo + n) -/
def rgD (lo : Int) (n : Nat) : List D := (List.range n).map fun (i : Nat) => D.int (lo + (i : Int))
theorem si_list (he : SE X W e de) {tg : Expr} : SI X W tg e (iL de) := PI.imp (pi_list he) fun σ H R w => by
  obtain ⟨ρ, σd, h, Xd, Qd, hr, sr, w, kx, k⟩ := w
  refine ⟨ρ, σd, h, Xd, _, hr, sr, w, kx, fun ρ1 d h1 v H1 e1 hr1 dv q => ?_⟩
  obtain ⟨l, el, q⟩ := q
  obtain ⟨a, vs, rfl, hq, dvs⟩ := asL_at hr1 dv el
  refine ⟨a, rfl, ⟨vs, hq⟩, k ρ1 l _ h1 _ H1 e1 hr1 (it_list fun ρ2 h2 H2 e2 hr2 g2 => ?_) q⟩
  obtain ⟨a', vs', e', hq', dvs'⟩ := asL_at hr2 (dv.ext e2) g2
  cases e'
  exact ⟨vs', hq', dvs'⟩
theorem si_tup (he : SE X W e de) {tg : Expr} : SI X W tg e (iT de) := PI.imp (pi_tup he) fun σ H R w => by
  obtain ⟨ρ, σd, h, Xd, Qd, hr, sr, w, kx, k⟩ := w
  refine ⟨ρ, σd, h, Xd, _, hr, sr, w, kx, fun ρ1 d h1 v H1 e1 hr1 dv q => ?_⟩
  obtain ⟨l, rfl, q⟩ := q
  obtain ⟨a, vs, rfl, hq, dvs⟩ := dv
  exact ⟨a, rfl, ⟨vs, hq.sq⟩, k ρ1 l _ h1 _ H1 e1 hr1 (it_tup fun ρ2 h2 H2 e2 hr2 g2 => ⟨vs, (hq.ext e2).sq, DVs.ext e2 _ _ dvs⟩) q⟩
theorem it_range {K : PySem.W.Frag} {ρ0 : List Addr} {H0 : Hp} {lo : Int} {n : Nat} {G : DHp → Prop} : ItAt K ρ0 H0 (rgD lo n) G (Itr lo n) := by
  intro ρ h H i e hr g
  have hl : (rgD lo n).length = n := by unfold rgD; rw [List.length_map, List.length_range]
  refine ⟨fun d hd => ?_, fun z => by rw [hl] at z; exact z⟩
  have hi : i < n := by have := (List.getElem?_eq_some_iff.mp hd).1; rwa [hl] at this
  refine ⟨hi, fun u H' y => ?_⟩
  obtain ⟨rfl, rfl⟩ := y
  unfold rgD at hd
  rw [List.getElem?_map, List.getElem?_range hi] at hd
  cases hd
  exact ⟨.refl, hr, rfl⟩
def RgD (i j : Int) : Prop := -(2 ^ 62) ≤ i ∧ i < 2 ^ 62 ∧ -(2 ^ 62) ≤ j ∧ j < 2 ^ 62
def iR1 (ts : DA) : DI := fun σ h X Q => ts σ h X fun ds h1 => ∃ j, ds = [.int j] ∧ RgD 0 j ∧ Q (rgD 0 j.toNat) (fun _ => True) h1
def iR2 (ts : DA) : DI := fun σ h X Q => ts σ h X fun ds h1 => ∃ i j, ds = [.int i, .int j] ∧ RgD i j ∧ Q (rgD i (j - i).toNat) (fun _ => True) h1
end
end L2.MW

/-! MW, part E: while, comprehensions. -/
namespace L2.MW
open PySem PySem.Spec PyProof.Rows

/-! ### refs below a bound -/
mutual
def Bd (n : Nat) : D → Prop
  | .ref i => i < n
  | .tup l => Bds n l
  | .lst l => Bds n l
  | .fz l => Bds n l
  | .obj _ fs => BdF n fs
  | .exn _ _ _ fs => BdF n fs
  | _ => True
def Bds (n : Nat) : List D → Prop
  | [] => True
  | d :: ds => Bd n d ∧ Bds n ds
def BdF (n : Nat) : List (Str × D) → Prop
  | [] => True
  | p :: ps => Bd n p.2 ∧ BdF n ps
end
theorem Bds_iff {n : Nat} : ∀ {l : List D}, Bds n l ↔ ∀ x ∈ l, Bd n x
  | [] => Iff.intro (fun _ _ h => nomatch h) (fun _ => trivial)
  | d :: ds => by
    constructor
    · intro h x hx
      rcases List.mem_cons.mp hx with e | hx
      · rw [e]; exact h.1
      · exact Bds_iff.mp h.2 x hx
    · intro h
      exact ⟨h d List.mem_cons_self, Bds_iff.mpr fun x hx => h x (List.mem_cons_of_mem _ hx)⟩
theorem Bds_append {n : Nat} {a b : List D} : Bds n (a ++ b) ↔ Bds n a ∧ Bds n b := by
  rw [Bds_iff, Bds_iff, Bds_iff]
  exact ⟨fun h => ⟨fun x hx => h x (List.mem_append_left _ hx), fun x hx => h x (List.mem_append_right _ hx)⟩, fun h x hx => (List.mem_append.mp hx).elim (h.1 x) (h.2 x)⟩
theorem Bds_map {α : Type} {n : Nat} {f : α → D} {l : List α} (h : ∀ x ∈ l, Bd n (f x)) : Bds n (l.map f) := Bds_iff.mpr fun y hy => by
  obtain ⟨x, hx, rfl⟩ := List.mem_map.mp hy
  exact h x hx
mutual
theorem Bd.mono {n m : Nat} (hm : n ≤ m) : ∀ d : D, Bd n d → Bd m d
  | .ref i, h => Nat.lt_of_lt_of_le h hm
  | .tup l, h => Bds.mono hm l h
  | .lst l, h => Bds.mono hm l h
  | .fz l, h => Bds.mono hm l h
  | .obj _ fs, h => BdF.mono hm fs h
  | .non, _ => trivial
  | .bl _, _ => trivial
  | .int _, _ => trivial
  | .str _, _ => trivial
  | .ty _, _ => trivial
  | .cls _, _ => trivial
  | .exn _ _ _ fs, h => BdF.mono hm fs h
theorem Bds.mono {n m : Nat} (hm : n ≤ m) : ∀ l : List D, Bds n l → Bds m l
  | [], _ => trivial
  | d :: ds, h => ⟨Bd.mono hm d h.1, Bds.mono hm ds h.2⟩
theorem BdF.mono {n m : Nat} (hm : n ≤ m) : ∀ l : List (Str × D), BdF n l → BdF m l
  | [], _ => trivial
  | d :: ds, h => ⟨Bd.mono hm d.2 h.1, BdF.mono hm ds h.2⟩
end
section
variable {K : PySem.W.Frag} {ρ t : List Addr} {H : Hp}
mutual
theorem DV.bd : ∀ (d : D) (v : V), DV K ρ H d v → Bd ρ.length d
  | .ref i, _, ⟨a, _, h⟩ => (List.getElem?_eq_some_iff.mp h).1
  | .tup l, _, ⟨_, vs, _, _, h⟩ => DVs.bd l vs h
  | .lst l, _, ⟨_, vs, _, _, h⟩ => DVs.bd l vs h
  | .fz l, _, ⟨_, vs, _, _, h⟩ => DVs.bd l vs h
  | .obj _ fs, _, ⟨_, _, ws, _, _, _, h⟩ => DFs.bd fs ws h
  | .non, _, _ => trivial
  | .bl _, _, _ => trivial
  | .int _, _, _ => trivial
  | .str _, _, _ => trivial
  | .ty _, _, _ => trivial
  | .cls _, _, _ => trivial
  | .exn _ _ _ fs, _, ⟨_, ws, _, _, h⟩ => DFs.bd fs ws h
theorem DVs.bd : ∀ (ds : List D) (vs : List V), DVs K ρ H ds vs → Bds ρ.length ds
  | [], _, _ => trivial
  | d :: ds, _, ⟨v, r, _, h1, h2⟩ => ⟨DV.bd d v h1, DVs.bd ds r h2⟩
theorem DFs.bd : ∀ (ds : List (Str × D)) (vs : List (Str × V)), DFs K ρ H ds vs → BdF ρ.length ds
  | [], _, _ => trivial
  | p :: ds, _, ⟨v, r, _, h1, h2⟩ => ⟨DV.bd p.2 v h1, DFs.bd ds r h2⟩
end
theorem out_app {a : Addr} (h : a ∉ ρ ++ t) : a ∉ ρ := fun z => h (List.mem_append_left _ z)
mutual
theorem DV.cut : ∀ (d : D) (v : V), Bd ρ.length d → DV K (ρ ++ t) H d v → DV K ρ H d v
  | .ref i, _, b, ⟨a, e, h⟩ => ⟨a, e, by rwa [List.getElem?_append_left b] at h⟩
  | .tup l, _, b, ⟨a, vs, e, h1, h2⟩ => ⟨a, vs, e, ⟨out_app h1.1, h1.2⟩, DVs.cut l vs b h2⟩
  | .lst l, _, b, ⟨a, vs, e, h1, h2⟩ => ⟨a, vs, e, ⟨out_app h1.1, h1.2⟩, DVs.cut l vs b h2⟩
  | .fz l, _, b, ⟨a, vs, e, h1, h2⟩ => ⟨a, vs, e, h1.imp (fun z => ⟨out_app z.1, z.2⟩) id, DVs.cut l vs b h2⟩
  | .obj _ fs, _, b, ⟨a, dx, ws, e, n, h1, h2⟩ => ⟨a, dx, ws, e, out_app n, h1, DFs.cut fs ws b h2⟩
  | .non, _, _, h => h
  | .bl _, _, _, h => h
  | .int _, _, _, h => h
  | .str _, _, _, h => h
  | .ty _, _, _, h => h
  | .cls _, _, _, h => h
  | .exn _ _ _ fs, _, b, ⟨e, ws, n, h1, h2⟩ => ⟨e, ws, out_app n, h1, DFs.cut fs ws b h2⟩
theorem DVs.cut : ∀ (ds : List D) (vs : List V), Bds ρ.length ds → DVs K (ρ ++ t) H ds vs → DVs K ρ H ds vs
  | [], _, _, h => h
  | d :: ds, _, b, ⟨v, r, e, h1, h2⟩ => ⟨v, r, e, DV.cut d v b.1 h1, DVs.cut ds r b.2 h2⟩
theorem DFs.cut : ∀ (ds : List (Str × D)) (vs : List (Str × V)), BdF ρ.length ds → DFs K (ρ ++ t) H ds vs → DFs K ρ H ds vs
  | [], _, _, h => h
  | p :: ds, _, b, ⟨v, r, e, h1, h2⟩ => ⟨v, r, e, DV.cut p.2 v b.1 h1, DFs.cut ds r b.2 h2⟩
end
end
/-- refs of a thing -/
def BdB (n : Nat) : HB → Prop
  | .lst l => Bds n l
  | .ins _ fs => BdF n fs
  | .dk l => Bds n (l.map (·.2))
  | .dt l => Bds n (l.map (·.2))
  | .st _ _ => True
/-- the last changing things are let go -/
theorem HR.cut {K : PySem.W.Frag} {ρ t : List Addr} {h g : DHp} {H : Hp} (hr : HR K (ρ ++ t) (h ++ g) H) (hl : ρ.length = h.length) (hb : ∀ b ∈ h, BdB ρ.length b) : HR K ρ h H := by
  refine ⟨hl, (List.nodup_append.mp hr.nd).1, fun i b a e1 e2 => ?_⟩
  have hi : i < h.length := (List.getElem?_eq_some_iff.mp e1).1
  have z := hr.at_ i b a (by rw [List.getElem?_append_left hi]; exact e1) (by rw [List.getElem?_append_left (by rw [hl]; exact hi)]; exact e2)
  have q := hb b (List.mem_of_getElem? e1)
  cases b with
  | lst l => obtain ⟨vs, z1, z2⟩ := z; exact ⟨vs, z1, DVs.cut _ _ q z2⟩
  | ins c fs => obtain ⟨dx, ws, z1, z2⟩ := z; exact ⟨dx, ws, z1, DFs.cut _ _ q z2⟩
  | dk l => obtain ⟨vs, z1, z2⟩ := z; exact ⟨vs, z1, DVs.cut _ _ q z2⟩
  | dt l => obtain ⟨vs, z1, z2⟩ := z; exact ⟨vs, z1, DVs.cut _ _ q z2⟩
  | st S n => exact z
theorem HR.bd {K : PySem.W.Frag} {ρ : List Addr} {h : DHp} {H : Hp} (hr : HR K ρ h H) : ∀ b ∈ h, BdB ρ.length b := fun b hb => by
  obtain ⟨i, hi, rfl⟩ := List.getElem_of_mem hb
  obtain ⟨a, ha, z⟩ := hr.get (List.getElem?_eq_getElem hi)
  revert z
  cases h[i] with
  | lst l => rintro ⟨vs, _, z⟩; exact DVs.bd _ _ z
  | ins c fs => rintro ⟨dx, ws, _, z⟩; exact DFs.bd _ _ z
  | dk l => rintro ⟨vs, _, z⟩; exact DVs.bd _ _ z
  | dt l => rintro ⟨vs, _, z⟩; exact DVs.bd _ _ z
  | st S n => intro _; trivial
theorem Ext.cut {ρ t : List Addr} {H H' : Hp} (e : Ext ρ H (ρ ++ t) H') : Ext ρ H ρ H' := ⟨⟨[], by simp⟩, fun _ h n => absurd h n, e.old⟩

section
variable {X : Cx} {W : WX} {pos : Pos}
/-! ### while -/
def whW (c : DT) (tb : DS) (E : DEnds) : Nat → DSt → DHp → Prop
  | 0, _, _ => False
  | n + 1, σ, h => c σ h (E.xx σ) fun b h1 => (b = true → tb { E with nx := whW c tb E n, ct := whW c tb E n, bk := E.nx } σ h1) ∧ (b = false → E.nx σ h1)
def sWhile (c : DT) (tb : DS) : DS := fun E σ h => ∃ n, whW c tb { E with n0 := h.length } n σ h
theorem s1_while {c : Expr} {body : List Stmt} {tc : DT} {tb : DS} (hp : PassesOwn (model X.prog X.w) X.A X.env X.xe) (hc : ST X W c tc) (hb : SS X W body tb) : S1 X W (.While c body [] pos) (sWhile tc tb) := by
  refine PS.imp (ps_while hp hc hb) fun Dn σ H w => ?_
  obtain ⟨ρ0, H0, ρ, σd, h, E, e0, hr, sr, ⟨n, w⟩, k⟩ := w
  refine ⟨fun m σ2 H2 => ∃ ρ2 σd2 h2, Ext ρ H ρ2 H2 ∧ HR X.K ρ2 h2 H2 ∧ SR X.K ρ2 H2 σd2 σ2 ∧ whW tc tb { E with n0 := h.length } m σd2 h2, ⟨n, ρ, σd, h, .refl, hr, sr, w⟩, ?_⟩
  rintro m σ2 H2 ⟨ρ2, σd2, h2, e2, hr2, sr2, w2⟩
  cases m with
  | zero => exact w2.elim
  | succ m =>
    refine lT.go hr2 sr2 w2 (k.xw (e0.trans e2)) fun ρ3 b h3 H3 e3 hr3 sr3 kx3 q => ?_
    cases b with
    | true =>
      refine iteT ⟨fun σ' H' => ∃ ρ4 σd4 h4, Ext ρ H ρ4 H' ∧ HR X.K ρ4 h4 H' ∧ SR X.K ρ4 H' σd4 σ' ∧ whW tc tb { E with n0 := h.length } m σd4 h4, fun σ' H' z => ⟨m, Nat.lt_succ_self _, z⟩, ?_⟩
      refine ⟨ρ, H, ρ3, σd2, h3, _, e2.trans e3, hr3, sr3, q.1 rfl, ⟨hr.len.symm, ?_, ?_, ?_, ?_, ?_⟩⟩
      · exact fun ρ4 σd4 h4 σ4 H4 e4 hr4 sr4 q4 => ⟨ρ4, σd4, h4, e4, hr4, sr4, q4⟩
      · exact fun ρ4 σd4 h4 σ4 H4 e4 hr4 sr4 q4 => k.nx ρ4 σd4 h4 σ4 H4 (e0.trans e4) hr4 sr4 q4
      · exact fun ρ4 σd4 h4 σ4 H4 e4 hr4 sr4 q4 => ⟨ρ4, σd4, h4, e4, hr4, sr4, q4⟩
      · exact fun ρ4 d4 h4 v4 H4 e4 => k.rt ρ4 d4 h4 v4 H4 (e0.trans e4)
      · exact fun ρ4 x4 σd4 h4 c4 d4 σ4 H4 e4 => k.ex ρ4 x4 σd4 h4 c4 d4 σ4 H4 (e0.trans e4)
    | false => exact iteF (k.nx ρ3 σd2 h3 σ2 H3 ((e0.trans e2).trans e3) hr3 sr3 (q.2 rfl))

/-! ### comprehensions -/
abbrev W0 : WX := fun _ _ _ _ => False
abbrev X0 : DX := fun _ _ => False
def wipeD (σ : DSt) : List Nat → DSt
  | [] => σ
  | v :: vs => (wipeD σ vs).set v none
theorem wipe_get (σ : St) (i : Nat) : ∀ vs : List Nat, i ∉ vs → (wipe σ vs)[i]? = σ[i]?
  | [], _ => rfl
  | v :: vs, h => by
    have h1 : v ≠ i := fun z => h (by rw [z]; exact List.mem_cons_self)
    have h2 : i ∉ vs := fun z => h (List.mem_cons_of_mem _ z)
    unfold wipe
    rw [List.getElem?_set_ne h1]
    exact wipe_get σ i vs h2
theorem wipe_in (σ : St) (i : Nat) (hi : i < σ.length) : ∀ vs : List Nat, i ∈ vs → (wipe σ vs)[i]? = some none
  | [], h => nomatch h
  | v :: vs, h => by
    unfold wipe
    by_cases e : v = i
    · subst e
      rw [List.getElem?_set_self (by rw [wipe_length]; exact hi)]
    · rw [List.getElem?_set_ne e]
      rcases List.mem_cons.mp h with z | z
      · exact absurd z.symm e
      · exact wipe_in σ i hi vs z
theorem wipe_only {T vs : List Nat} {σ σ2 : St} (on : Only T (wipe σ vs) σ2) (hs : ∀ i ∈ T, i ∈ vs) : wipe σ2 vs = wipe σ vs := by
  apply List.ext_getElem?
  intro i
  by_cases hi : i ∈ vs
  · by_cases hl : i < σ.length
    · rw [wipe_in σ i hl vs hi, wipe_in σ2 i (by rw [on.1, wipe_length]; exact hl) vs hi]
    · have z1 : (wipe σ2 vs).length ≤ i := by rw [wipe_length, on.1, wipe_length]; exact Nat.le_of_not_lt hl
      have z2 : (wipe σ vs).length ≤ i := by rw [wipe_length]; exact Nat.le_of_not_lt hl
      rw [List.getElem?_eq_none z1, List.getElem?_eq_none z2]
  · rw [wipe_get σ2 i vs hi, on.2 i fun z => hi (hs i z)]
theorem SR.wipe {K : PySem.W.Frag} {ρ : List Addr} {H : Hp} {σd : DSt} {σ : St} (r : SR K ρ H σd σ) : ∀ vs : List Nat, SR K ρ H (wipeD σd vs) (wipe σ vs)
  | [] => r
  | v :: vs => by
    have ih := SR.wipe r vs
    refine ⟨by unfold wipeD L2.wipe; rw [List.length_set, List.length_set]; exact ih.len, fun i d h => ?_⟩
    unfold wipeD at h
    unfold L2.wipe
    by_cases e : v = i
    · subst e
      have hl : v < (wipeD σd vs).length := by have := (List.getElem?_eq_some_iff.mp h).1; rwa [List.length_set] at this
      rw [List.getElem?_set_self hl] at h
      cases h
    · rw [List.getElem?_set_ne e] at h ⊢
      exact ih.at_ i d h
abbrev SPT (X : Cx) (W : WX) (ifs : List Expr) (t : DT) : Prop := PTs X ifs (lT X.K W t)
def dYes : DT := fun _ h _ Q => Q true h
theorem PTs.imp {X : Cx} {e : List Expr} {t t' : TT} (h : PTs X e t) (i : ∀ σ H Q, t' σ H Q → t σ H Q) : PTs X e t' := ⟨fun pins s σ H Q I w => h.run pins s σ H Q I (i σ H Q w)⟩
theorem sp_nil : SPT X W [] dYes := PTs.imp pts_nil fun σ H Q w => by
  obtain ⟨ρ, σd, h, Xd, Qd, hr, sr, w, kx, k⟩ := w
  exact k ρ true h H .refl hr w
theorem sp_one {c : Expr} {t : DT} (h : ST X W c t) : SPT X W [c] t := pts_one h
def lcH (g : DG) (tt : DT) (te : DE) (G : DHp → Prop) (n : Nat) (σ : DSt) : List D → DHp → (DHp → Prop) → Prop
  | [], h, Q => G h ∧ Q h
  | x :: xs, h, Q => G h ∧ g x σ h X0 fun σ2 h2 => tt σ2 h2 X0 fun b h3 =>
      (b = true → te σ2 h3 X0 fun y h4 => ∃ acc, h4[n]? = some (.lst acc) ∧ acc.length < sizeLine ∧ lcH g tt te G n σ xs (h4.set n (.lst (acc ++ [y]))) Q) ∧ (b = false → lcH g tt te G n σ xs h3 Q)
theorem lcH_G {g : DG} {tt : DT} {te : DE} {G : DHp → Prop} {n : Nat} {σ : DSt} {xs : List D} {h : DHp} {Q : DHp → Prop} (w : lcH g tt te G n σ xs h Q) : G h := by
  cases xs <;> exact w.1
def dLcH (ti : DI) (g : DG) (tt : DT) (te : DE) (vs : List Nat) : DE := fun σ h X Q => ti σ h X fun items G h1 => lcH g tt te G h1.length (wipeD σ vs) items (h1 ++ [.lst []]) fun h' => Q (.ref h1.length) h'
def dLc (ti : DI) (g : DG) (tt : DT) (te : DE) (vs : List Nat) : DE := fun σ h X Q => ti σ h X fun items G h1 => lcH g tt te G h1.length (wipeD σ vs) items (h1 ++ [.lst []]) fun h' => ∃ acc, h' = h1 ++ [.lst acc] ∧ Bds h1.length acc ∧ Q (.lst acc) h1
/-- the heart of a comprehension -/
theorem lc_read {K : PySem.W.Frag} {T vs : List Nat} {g : DG} {tt : DT} {te : DE} {σ : St} {σd : DSt} {ρ1 : List Addr} {h1 : DHp} {H1 : Hp} {items : List D} {G : DHp → Prop} {J : It} {Dp : Addr} {R : Hp → Prop} {Qh : DHp → Prop} (hT : ∀ i ∈ T, i ∈ vs)
    (hr1 : HR K ρ1 h1 H1) (sr1 : SR K ρ1 H1 σd σ) (it : ItAt K ρ1 H1 items G J) (nD : H1 Dp = none) (w1 : lcH g tt te G h1.length (wipeD σd vs) items (h1 ++ [.lst []]) Qh)
    (fin : ∀ ρ2 h2 H, Ext ρ1 H1 ρ2 H → HR K ρ2 h2 H → ρ2[h1.length]? = some Dp → Qh h2 → R H) :
    ∃ Wv : Nat → Nat → Hp → Prop, (∃ m, Wv 0 m (upd H1 Dp (.lst []))) ∧ ∀ i m H, Wv i m H → (J.stop i H ∧ R H) ∨ (J.go i H ∧ ∃ Nx : Hp → Prop, (∀ H', Nx H' → ∃ m', m' < m ∧ Wv (i + 1) m' H') ∧
      ∀ x H', J.yld i H x H' → lG K W0 T g x (wipe σ vs) H' fun σ2 H2 => wipe σ2 vs = wipe σ vs ∧ lT K W0 tt σ2 H2 fun b H3 => if b = true then lE K W0 te σ2 H3 fun y H4 => ∃ acc, H4 Dp = some (.lst acc) ∧ acc.length < sizeLine ∧ Nx (upd H4 Dp (.lst (acc ++ [y]))) else Nx H3) := by
  obtain ⟨p1, p2⟩ := push_lst (p := Dp) hr1 nD (ds := []) (vs := []) rfl
  have e1p : Ext ρ1 H1 (ρ1 ++ [Dp]) (upd H1 Dp (.lst [])) := .push nD
  refine ⟨fun i m H => m = items.length - i ∧ i ≤ items.length ∧ ∃ ρ2 h2, Ext ρ1 H1 ρ2 H ∧ HR K ρ2 h2 H ∧ ρ2[h1.length]? = some Dp ∧ lcH g tt te G h1.length (wipeD σd vs) (items.drop i) h2 Qh, ⟨items.length, rfl, Nat.zero_le _, _, _, e1p, p1, ?_, w1⟩, ?_⟩
  · obtain ⟨a, ea, q⟩ := p2
    cases ea
    exact q
  rintro i m H ⟨rfl, hi, ρ2, h2, e12, hr2, hD, w2⟩
  obtain ⟨itg, its⟩ := it ρ2 h2 H i e12 hr2 (lcH_G w2)
  by_cases hlt : i < items.length
  · refine .inr ?_
    obtain ⟨go, yl⟩ := itg _ (List.getElem?_eq_getElem hlt)
    rw [List.drop_eq_getElem_cons hlt] at w2
    have w2' := w2.2
    refine ⟨go, fun H' => ∃ ρ3 h3, Ext ρ1 H1 ρ3 H' ∧ HR K ρ3 h3 H' ∧ ρ3[h1.length]? = some Dp ∧ lcH g tt te G h1.length (wipeD σd vs) (items.drop (i + 1)) h3 Qh, fun H' n => ⟨items.length - (i + 1), by omega, rfl, hlt, n⟩, fun x H' y => ?_⟩
    obtain ⟨ey, hry, dvy⟩ := yl x H' y
    have e1y := e12.trans ey
    refine ⟨ρ2, _, h2, X0, _, _, hry, (sr1.ext e1y).wipe vs, dvy, w2', fun _ _ _ _ _ _ _ _ _ _ z => z.elim, fun ρ3 σd3 h3 σ3 H3 e3 hr3 sr3 on w3 => ⟨wipe_only on hT, ?_⟩⟩
    refine lT.go hr3 sr3 w3 (fun _ _ _ _ _ _ _ _ _ _ z => z.elim) fun ρ4 b h4 H4 e4 hr4 sr4 kx4 q4 => ?_
    have e14 := (e1y.trans e3).trans e4
    have hD4 : ρ4[h1.length]? = some Dp := (ey.trans (e3.trans e4)).get hD
    cases b with
    | true =>
      refine iteT (lE.go hr4 sr4 (q4.1 rfl) kx4 fun ρ5 d5 h5 v5 H5 e5 hr5 sr5 kx5 dv5 q5 => ?_)
      obtain ⟨acc, ha, hz, q5⟩ := q5
      have hD5 : ρ5[h1.length]? = some Dp := e5.get hD4
      obtain ⟨vacc, hH, dacc⟩ := hr5.at_ _ _ _ ha hD5
      refine ⟨vacc, hH, by rw [dacc.length]; exact hz, ?_⟩
      obtain ⟨a1, a2⟩ := write_lst hr5 hD5 (dacc.append (.one dv5))
      exact ⟨ρ5, _, (e14.trans e5).trans a2, a1, hD5, q5⟩
    | false => exact iteF ⟨ρ4, h4, e14, hr4, hD4, q4.2 rfl⟩
  · refine .inl ⟨its (Nat.le_of_not_lt hlt), ?_⟩
    rw [List.drop_eq_nil_of_le (Nat.le_of_not_lt hlt)] at w2
    exact fin ρ2 h2 H e12 hr2 hD w2.2
/-- the frozen end -/
theorem lc_freeze {K : PySem.W.Frag} {ρ1 ρ2 : List Addr} {h1 : DHp} {H1 H : Hp} {Dp : Addr} {acc : List D} (hr1 : HR K ρ1 h1 H1) (e : Ext ρ1 H1 ρ2 H) (hr : HR K ρ2 (h1 ++ [.lst acc]) H) (hD : ρ2[h1.length]? = some Dp) (hb : Bds h1.length acc) :
    Ext ρ1 H1 ρ1 H ∧ HR K ρ1 h1 H ∧ DV K ρ1 H (.lst acc) (.ref Dp) := by
  obtain ⟨t, rfl⟩ := e.pre
  obtain ⟨vacc, hH, dacc⟩ := hr.at_ h1.length (.lst acc) Dp (by rw [List.getElem?_append_right (Nat.le_refl _), Nat.sub_self]; rfl) hD
  refine ⟨e.cut, hr.cut hr1.len hr1.bd, Dp, vacc, rfl, ⟨fun z => ?_, hH⟩, DVs.cut _ _ (by rw [hr1.len]; exact hb) dacc⟩
  have nd := (List.nodup_append.mp hr.nd).2.2
  rw [← hr1.len, List.getElem?_append_right (Nat.le_refl _)] at hD
  exact nd Dp z Dp (List.mem_of_getElem? hD) rfl
theorem lc_any {K : PySem.W.Frag} {T vs : List Nat} {ti : DI} {g : DG} {tt : DT} {te : DE} {σ : St} {H : Hp} {Q : VK} (hT : ∀ i ∈ T, i ∈ vs) (w : lE K W (dLc ti g tt te vs) σ H Q) : tLc (lI K W ti) (lG K W0 T g) (lT K W0 tt) (lE K W0 te) vs σ H Q := by
  obtain ⟨ρ, σd, h, Xd, Qd, hr, sr, w, kx, k⟩ := w
  refine lI.go hr sr w kx fun ρ1 items G h1 J H1 e1 hr1 sr1 kx1 it w1 => fun Dp nD => ?_
  refine lc_read hT hr1 sr1 it nD w1 fun ρ2 h2 H2 e2 hr2 hD q => ?_
  obtain ⟨acc, rfl, hb, q⟩ := q
  obtain ⟨a1, a2, a3⟩ := lc_freeze hr1 e2 hr2 hD hb
  exact k ρ1 _ h1 _ H2 (e1.trans a1) a2 a3 q
theorem lc_anyH {K : PySem.W.Frag} {T vs : List Nat} {ti : DI} {g : DG} {tt : DT} {te : DE} {σ : St} {H : Hp} {Q : VK} (hT : ∀ i ∈ T, i ∈ vs) (w : lE K W (dLcH ti g tt te vs) σ H Q) : tLc (lI K W ti) (lG K W0 T g) (lT K W0 tt) (lE K W0 te) vs σ H Q := by
  obtain ⟨ρ, σd, h, Xd, Qd, hr, sr, w, kx, k⟩ := w
  refine lI.go hr sr w kx fun ρ1 items G h1 J H1 e1 hr1 sr1 kx1 it w1 => fun Dp nD => ?_
  exact lc_read hT hr1 sr1 it nD w1 fun ρ2 h2 H2 e2 hr2 hD q => k ρ2 (.ref h1.length) h2 _ H2 (e1.trans e2) hr2 ⟨Dp, rfl, hD⟩ q
section
variable {elt tg iter : Expr} {ifs : List Expr} {scope : Scope} {own : List (Str × Nat)} {T : List Nat} {ti : DI} {g : DG} {tt : DT} {te : DE}
theorem se_lc (hc : X.calm = true) (hN : X.N.Nodup) (hi : SI X W tg iter ti) (ok : BlkOk X.N X.env.scope scope own)
    (hg : ∀ (s : Shared) (H : Hp) (C : Addr) (cl : List (Str × Addr)) (fp : List Addr), SG (X.blk s H scope (compEnvC scope cl C X.env) fp) W0 T tg g) (ht : ∀ (s : Shared) (H : Hp) (C : Addr) (cl : List (Str × Addr)) (fp : List Addr), SPT (X.blk s H scope (compEnvC scope cl C X.env) fp) W0 ifs tt)
    (he : ∀ (s : Shared) (H : Hp) (C : Addr) (cl : List (Str × Addr)) (fp : List Addr), SE (X.blk s H scope (compEnvC scope cl C X.env) fp) W0 elt te) (hT : ∀ i ∈ T, i ∈ own.map (·.2) := by decide) (hs : ∀ x, foldedSetIterable iter X.env x = pure x := by intro _; rfl) :
    SE X W (.ListComp elt [⟨tg, iter, ifs, 0⟩] scope pos) (dLc ti g tt te (own.map (·.2))) := PE.imp (pe_lc hc hN hi ok hg ht he hs) fun σ H Q w => lc_any hT w
theorem se_lcH (hc : X.calm = true) (hN : X.N.Nodup) (hi : SI X W tg iter ti) (ok : BlkOk X.N X.env.scope scope own)
    (hg : ∀ (s : Shared) (H : Hp) (C : Addr) (cl : List (Str × Addr)) (fp : List Addr), SG (X.blk s H scope (compEnvC scope cl C X.env) fp) W0 T tg g) (ht : ∀ (s : Shared) (H : Hp) (C : Addr) (cl : List (Str × Addr)) (fp : List Addr), SPT (X.blk s H scope (compEnvC scope cl C X.env) fp) W0 ifs tt)
    (he : ∀ (s : Shared) (H : Hp) (C : Addr) (cl : List (Str × Addr)) (fp : List Addr), SE (X.blk s H scope (compEnvC scope cl C X.env) fp) W0 elt te) (hT : ∀ i ∈ T, i ∈ own.map (·.2) := by decide) (hs : ∀ x, foldedSetIterable iter X.env x = pure x := by intro _; rfl) :
    SE X W (.ListComp elt [⟨tg, iter, ifs, 0⟩] scope pos) (dLcH ti g tt te (own.map (·.2))) := PE.imp (pe_lc hc hN hi ok hg ht he hs) fun σ H Q w => lc_anyH hT w
/-- name = [..] -/
theorem lS_asg {K : PySem.W.Frag} {de : DE} {i : Nat} {Dn : Ends} {σ : St} {H : Hp} (w : lS K W (sSet i de) Dn σ H) : lE K W de σ H fun x H1 => gName i x σ H1 Dn.nx := by
  obtain ⟨ρ0, H0, ρ, σd, h, E, e0, hr, sr, w, k⟩ := w
  exact lE.go hr sr w (k.xw e0) fun ρ1 d1 h1 v1 H1 e1 hr1 sr1 kx1 dv1 q => k.nx ρ1 _ h1 _ H1 (e0.trans e1) hr1 (sr1.set dv1) q
theorem s1_setLc (i : Nat) {y : Str} {py spos : Pos} (hc : X.calm = true) (hN : X.N.Nodup) (hi : SI X W tg iter ti) (ok : BlkOk X.N X.env.scope scope own)
    (hg : ∀ (s : Shared) (H : Hp) (C : Addr) (cl : List (Str × Addr)) (fp : List Addr), SG (X.blk s H scope (compEnvC scope cl C X.env) fp) W0 T tg g) (ht : ∀ (s : Shared) (H : Hp) (C : Addr) (cl : List (Str × Addr)) (fp : List Addr), SPT (X.blk s H scope (compEnvC scope cl C X.env) fp) W0 ifs tt)
    (he : ∀ (s : Shared) (H : Hp) (C : Addr) (cl : List (Str × Addr)) (fp : List Addr), SE (X.blk s H scope (compEnvC scope cl C X.env) fp) W0 elt te) (hy : X.N[i]? = some y := by rfl) (hyl : X.env.scope.names.lookup y = some .local := by rfl)
    (hsw : swapsWith (.ListComp elt [⟨tg, iter, ifs, 0⟩] scope pos) (some (.Name y py)) spos.line X.env = pure true := by exact sw_true rfl rfl rfl (by decide +kernel)) (hT : ∀ i ∈ T, i ∈ own.map (·.2) := by decide) (hs : ∀ x, foldedSetIterable iter X.env x = pure x := by intro _; rfl) :
    S1 X W (.Assign [.Name y py] (.ListComp elt [⟨tg, iter, ifs, 0⟩] scope pos) spos) (sSet i (dLc ti g tt te (own.map (·.2)))) := PS.imp (ps_setLc hc hN hy hyl hsw hi ok hg ht he hs) fun Dn σ H w => lc_any hT (lS_asg w)
theorem s1_setLcH (i : Nat) {y : Str} {py spos : Pos} (hc : X.calm = true) (hN : X.N.Nodup) (hi : SI X W tg iter ti) (ok : BlkOk X.N X.env.scope scope own)
    (hg : ∀ (s : Shared) (H : Hp) (C : Addr) (cl : List (Str × Addr)) (fp : List Addr), SG (X.blk s H scope (compEnvC scope cl C X.env) fp) W0 T tg g) (ht : ∀ (s : Shared) (H : Hp) (C : Addr) (cl : List (Str × Addr)) (fp : List Addr), SPT (X.blk s H scope (compEnvC scope cl C X.env) fp) W0 ifs tt)
    (he : ∀ (s : Shared) (H : Hp) (C : Addr) (cl : List (Str × Addr)) (fp : List Addr), SE (X.blk s H scope (compEnvC scope cl C X.env) fp) W0 elt te) (hy : X.N[i]? = some y := by rfl) (hyl : X.env.scope.names.lookup y = some .local := by rfl)
    (hsw : swapsWith (.ListComp elt [⟨tg, iter, ifs, 0⟩] scope pos) (some (.Name y py)) spos.line X.env = pure true := by exact sw_true rfl rfl rfl (by decide +kernel)) (hT : ∀ i ∈ T, i ∈ own.map (·.2) := by decide) (hs : ∀ x, foldedSetIterable iter X.env x = pure x := by intro _; rfl) :
    S1 X W (.Assign [.Name y py] (.ListComp elt [⟨tg, iter, ifs, 0⟩] scope pos) spos) (sSet i (dLcH ti g tt te (own.map (·.2)))) := PS.imp (ps_setLc hc hN hy hyl hsw hi ok hg ht he hs) fun Dn σ H w => lc_anyH hT (lS_asg w)
end
end
end L2.MW

/-! MW, part F: calls of built-ins and of the text's own defs; contracts. -/
namespace L2.MW
open PySem PySem.Spec PyProof.Rows

abbrev DN := List D → DHp → DK → Prop
def LNok (K : PySem.W.Frag) (op : DN) (r : List V → Hp → VK → Prop) : Prop := ∀ ρ h H xs vs Qd Q, HR K ρ h H → DVs K ρ H xs vs → op xs h Qd →
  (∀ ρ' d h' v H', Ext ρ H ρ' H' → HR K ρ' h' H' → DV K ρ' H' d v → Qd d h' → Q v H') → r vs H Q
def dCB (op : DN) (ts : DA) : DE := fun σ h X Q => ts σ h X fun ds h1 => op ds h1 Q
section
variable {X : Cx} {W : WX} {pos p : Pos} {x : Str} {e : Expr} {es : List Expr} {ts : DA} {op : DN} {r : List V → Hp → VK → Prop} {id T : String}
theorem cb_go (L : LNok X.K op r) {σ : St} {H : Hp} {Q : VK} (w : lE X.K W (dCB op ts) σ H Q) : lA X.K W ts σ H fun vs H1 => r vs H1 Q := by
  obtain ⟨ρ, σd, h, Xd, Qd, hr, sr, w, kx, k⟩ := w
  exact ⟨ρ, σd, h, Xd, _, hr, sr, w, kx, fun ρ1 ds h1 vs H1 e1 hr1 dvs q => L ρ1 h1 H1 ds vs Qd Q hr1 dvs q fun ρ' d h' v H' e' => k ρ' d h' v H' (e1.trans e')⟩
theorem se_cb (hc : CallR X (.builtin id) r) (L : LNok X.K op r) (hg : Gl X x) (hm : X.mg x = none) (hv : bootBuiltins x = some (.builtin id)) (ha : SA X W (e :: es) ts) (hn : x ≠ "__name__" := by decide) (hdb : (x == ("__debug__" : Str)) = false := by decide)
    (he : starEach (e :: es) X.env = (false, eval e X.env) :: starEach es X.env := by rfl) (hpl : (backTo pos (starEach es X.env)).any (·.1) = false := by rfl) : SE X W (.Call (.Name x p) (e :: es) [] pos) (dCB op ts) :=
  PE.imp (pe_callB hc hg hm hv ha hn hdb he hpl) fun σ H Q w => cb_go L w
theorem se_ct (hc : CallR X (.type T) r) (L : LNok X.K op r) (hg : Gl X x) (hm : X.mg x = none) (hv : bootBuiltins x = some (.type T)) (ha : SA X W (e :: es) ts) (hn : x ≠ "__name__" := by decide) (hdb : (x == ("__debug__" : Str)) = false := by decide)
    (he : starEach (e :: es) X.env = (false, eval e X.env) :: starEach es X.env := by rfl) (hpl : (backTo pos (starEach es X.env)).any (·.1) = false := by rfl) : SE X W (.Call (.Name x p) (e :: es) [] pos) (dCB op ts) :=
  PE.imp (pe_callTy hc hg hm hv ha hn hdb he hpl) fun σ H Q w => cb_go L w
end
section
variable {K : PySem.W.Frag}
theorem DVs.un {ρ : List Addr} {H : Hp} {d : D} {vs : List V} (h : DVs K ρ H [d] vs) : ∃ v, vs = [v] ∧ DV K ρ H d v := by
  obtain ⟨v, r, rfl, h1, rfl⟩ := h
  exact ⟨v, rfl, h1⟩
theorem DVs.bi {ρ : List Addr} {H : Hp} {d d' : D} {vs : List V} (h : DVs K ρ H [d, d'] vs) : ∃ v v', vs = [v, v'] ∧ DV K ρ H d v ∧ DV K ρ H d' v' := by
  obtain ⟨v, r, rfl, h1, v', r', rfl, h2, rfl⟩ := h
  exact ⟨v, v', rfl, h1, h2⟩
/-! ### len, tuple, list, int, abs, .. -/
def nLen : DN := fun ds h Q => ∃ d, ds = [d] ∧ ((∃ l, asS h d = some l ∧ Q (.int l.length) h) ∨ ∃ z, d = .str z ∧ z.length ≤ sizeLine ∧ Q (.int z.length) h)
theorem L_len : LNok K nLen (fun xs H Q => (∃ p ys, xs = [.ref p] ∧ (SqL K H p ys ∨ SqT K H p ys) ∧ Q (.int ys.length) H) ∨ ∃ z, xs = [.str z] ∧ z.length ≤ sizeLine ∧ Q (.int z.length) H) := by
  intro ρ h H xs vs Qd Q hr dvs w k
  obtain ⟨d, rfl, w⟩ := w
  obtain ⟨v, rfl, dv⟩ := dvs.un
  rcases w with ⟨l, e, q⟩ | ⟨z, rfl, hz, q⟩
  · obtain ⟨a, vs, rfl, hq, ds⟩ := asS_at hr dv e
    refine .inl ⟨a, vs, rfl, hq, ?_⟩
    rw [ds.length]
    exact k ρ (.int l.length) h _ H .refl hr rfl q
  · have ez : v = .str z := dv
    subst ez
    exact .inr ⟨z, rfl, hz, k ρ (.int z.length) h _ H .refl hr rfl q⟩
def nTup : DN := fun ds h Q => ∃ d l, ds = [d] ∧ asS h d = some l ∧ Q (.tup l) h
theorem L_tup : LNok K nTup (fun xs H Q => ∃ p ys, xs = [.ref p] ∧ ((SqL K H p ys ∧ ∀ l, H l = none → Q (.ref l) (upd H l (.tup ys))) ∨ (SqT K H p ys ∧ Q (.ref p) H))) := by
  intro ρ h H xs vs Qd Q hr dvs w k
  obtain ⟨d, l, rfl, e, q⟩ := w
  obtain ⟨v, rfl, dv⟩ := dvs.un
  cases d with
  | tup l' =>
    cases e
    have dv' := dv
    obtain ⟨a, vs, rfl, hq, ds⟩ := dv
    exact ⟨a, vs, rfl, .inr ⟨hq.sq, k ρ (.tup _) h _ H .refl hr dv' q⟩⟩
  | lst l' => obtain ⟨a, vs, rfl, hq, ds⟩ := asL_at hr dv e; exact ⟨a, vs, rfl, .inl ⟨hq, fun p np => k ρ _ h _ _ (.new1 np) (hr.new1 np) (.tupNew hr np ds) q⟩⟩
  | fz l' => obtain ⟨a, vs, rfl, hq, ds⟩ := asL_at hr dv e; exact ⟨a, vs, rfl, .inl ⟨hq, fun p np => k ρ _ h _ _ (.new1 np) (hr.new1 np) (.tupNew hr np ds) q⟩⟩
  | ref i => obtain ⟨a, vs, rfl, hq, ds⟩ := asL_at hr dv e; exact ⟨a, vs, rfl, .inl ⟨hq, fun p np => k ρ _ h _ _ (.new1 np) (hr.new1 np) (.tupNew hr np ds) q⟩⟩
  | _ => cases e
/-- list(x), not to be changed; to be changed -/
def nLst : DN := fun ds h Q => ∃ d l, ds = [d] ∧ asS h d = some l ∧ Q (.lst l) h
def nLstH : DN := fun ds h Q => ∃ d l, ds = [d] ∧ asS h d = some l ∧ Q (.ref h.length) (h ++ [.lst l])
def rLstOf (K : PySem.W.Frag) : List V → Hp → VK → Prop := fun xs H Q => ∃ p ys, xs = [.ref p] ∧ (SqL K H p ys ∨ SqT K H p ys) ∧ ∀ l, H l = none → Q (.ref l) (upd H l (.lst ys))
theorem L_lst : LNok K nLst (rLstOf K) := by
  intro ρ h H xs vs Qd Q hr dvs w k
  obtain ⟨d, l, rfl, e, q⟩ := w
  obtain ⟨v, rfl, dv⟩ := dvs.un
  obtain ⟨a, vs, rfl, hq, ds⟩ := asS_at hr dv e
  exact ⟨a, vs, rfl, hq, fun p np => k ρ _ h _ _ (.new1 np) (hr.new1 np) (.lstNew hr np ds) q⟩
theorem L_lstH : LNok K nLstH (rLstOf K) := by
  intro ρ h H xs vs Qd Q hr dvs w k
  obtain ⟨d, l, rfl, e, q⟩ := w
  obtain ⟨v, rfl, dv⟩ := dvs.un
  obtain ⟨a, vs, rfl, hq, ds⟩ := asS_at hr dv e
  refine ⟨a, vs, rfl, hq, fun p np => ?_⟩
  obtain ⟨a1, a2⟩ := push_lst hr np ds
  exact k _ _ _ _ _ (.push np) a1 a2 q
def b2D (b : Bool) : Int := if b then 1 else 0
def nInt : DN := fun ds h Q => (∃ i, ds = [.int i] ∧ Q (.int i) h) ∨ ∃ b, ds = [.bl b] ∧ Q (.int (b2D b)) h
theorem L_int : LNok K nInt (fun xs H Q => (∃ i, xs = [.int i] ∧ Q (.int i) H) ∨ ∃ k, xs = [.bl k] ∧ Q (.int (if k then 1 else 0)) H) := by
  intro ρ h H xs vs Qd Q hr dvs w k
  rcases w with ⟨i, rfl, q⟩ | ⟨b, rfl, q⟩
  · obtain ⟨v, rfl, dv⟩ := dvs.un
    have e : v = .int i := dv
    exact .inl ⟨i, by rw [e], k ρ (.int i) h _ H .refl hr rfl q⟩
  · obtain ⟨v, rfl, dv⟩ := dvs.un
    have e : v = .bl b := dv
    exact .inr ⟨b, by rw [e], k ρ (.int (b2D b)) h _ H .refl hr rfl q⟩
def nStr : DN := fun ds h Q => ∃ i, ds = [.int i] ∧ i.natAbs.log2 < 1920 ∧ Q (.str (toString i)) h
theorem L_str : LNok K nStr (fun xs H Q => ∃ i, xs = [.int i] ∧ i.natAbs.log2 < 1920 ∧ Q (.str (toString i)) H) := by
  intro ρ h H xs vs Qd Q hr dvs w k
  obtain ⟨i, rfl, hi, q⟩ := w
  obtain ⟨v, rfl, dv⟩ := dvs.un
  have e : v = .int i := dv
  exact ⟨i, by rw [e], hi, k ρ (.str (toString i)) h _ H .refl hr rfl q⟩
def nAbs : DN := fun ds h Q => ∃ i, ds = [.int i] ∧ Q (.int (if i < 0 then -i else i)) h
theorem L_abs : LNok K nAbs (fun xs H Q => ∃ i, xs = [.int i] ∧ Q (.int (if i < 0 then -i else i)) H) := by
  intro ρ h H xs vs Qd Q hr dvs w k
  obtain ⟨i, rfl, q⟩ := w
  obtain ⟨v, rfl, dv⟩ := dvs.un
  have e : v = .int i := dv
  exact ⟨i, by rw [e], k ρ (.int (if i < 0 then -i else i)) h _ H .refl hr rfl q⟩
def nI2 (f : Int → Int → Int) : DN := fun ds h Q => ∃ i j, ds = [.int i, .int j] ∧ Q (.int (f i j)) h
theorem L_I2 {f : Int → Int → Int} : LNok K (nI2 f) (fun xs H Q => ∃ i j, xs = [.int i, .int j] ∧ Q (.int (f i j)) H) := by
  intro ρ h H xs vs Qd Q hr dvs w k
  obtain ⟨i, j, rfl, q⟩ := w
  obtain ⟨v, v', rfl, d1, d2⟩ := dvs.bi
  have e1 : v = .int i := d1
  have e2 : v' = .int j := d2
  exact ⟨i, j, by rw [e1, e2], k ρ (.int (f i j)) h _ H .refl hr rfl q⟩
def nSum : DN := fun ds h Q => ∃ d, ∃ ns : List Int, ds = [d] ∧ asL h d = some (ns.map D.int) ∧ Q (.int ns.sum) h
theorem L_sum : LNok K nSum (rSum K) := by
  intro ρ h H xs vs Qd Q hr dvs w k
  obtain ⟨d, ns, rfl, e, q⟩ := w
  obtain ⟨v, rfl, dv⟩ := dvs.un
  obtain ⟨a, vs, rfl, hq, ds⟩ := asL_at hr dv e
  rw [ds.ints] at hq
  exact ⟨a, ns, rfl, hq, k ρ (.int ns.sum) h _ H .refl hr rfl q⟩
def nAll : DN := fun ds h Q => ∃ d, ∃ bs : List Bool, ds = [d] ∧ asL h d = some (bs.map D.bl) ∧ Q (.bl (bs.all id)) h
def nAny : DN := fun ds h Q => ∃ d, ∃ bs : List Bool, ds = [d] ∧ asL h d = some (bs.map D.bl) ∧ Q (.bl (bs.any id)) h
theorem L_all : LNok K nAll (rAll K) := by
  intro ρ h H xs vs Qd Q hr dvs w k
  obtain ⟨d, ns, rfl, e, q⟩ := w
  obtain ⟨v, rfl, dv⟩ := dvs.un
  obtain ⟨a, vs, rfl, hq, ds⟩ := asL_at hr dv e
  rw [ds.bls] at hq
  exact ⟨a, ns, rfl, hq, k ρ (.bl (ns.all id)) h _ H .refl hr rfl q⟩
theorem L_any : LNok K nAny (rAny K) := by
  intro ρ h H xs vs Qd Q hr dvs w k
  obtain ⟨d, ns, rfl, e, q⟩ := w
  obtain ⟨v, rfl, dv⟩ := dvs.un
  obtain ⟨a, vs, rfl, hq, ds⟩ := asL_at hr dv e
  rw [ds.bls] at hq
  exact ⟨a, ns, rfl, hq, k ρ (.bl (ns.any id)) h _ H .refl hr rfl q⟩
/-- max, min of a list of ints -/
def nMax : DN := fun ds h Q => ∃ d, ∃ ns : List Int, ds = [d] ∧ asL h d = some (ns.map D.int) ∧ 0 < ns.length ∧ ∀ m, m ∈ ns → (∀ y, y ∈ ns → y ≤ m) → Q (.int m) h
def nMin : DN := fun ds h Q => ∃ d, ∃ ns : List Int, ds = [d] ∧ asL h d = some (ns.map D.int) ∧ 0 < ns.length ∧ ∀ m, m ∈ ns → (∀ y, y ∈ ns → m ≤ y) → Q (.int m) h
theorem L_max : LNok K nMax (rMax K) := by
  intro ρ h H xs vs Qd Q hr dvs w k
  obtain ⟨d, ns, rfl, e, hn, q⟩ := w
  obtain ⟨v, rfl, dv⟩ := dvs.un
  obtain ⟨a, vs, rfl, hq, ds⟩ := asL_at hr dv e
  rw [ds.ints] at hq
  exact ⟨a, ns, rfl, hq, hn, fun m h1 h2 => k ρ (.int m) h _ H .refl hr rfl (q m h1 h2)⟩
theorem L_min : LNok K nMin (rMin K) := by
  intro ρ h H xs vs Qd Q hr dvs w k
  obtain ⟨d, ns, rfl, e, hn, q⟩ := w
  obtain ⟨v, rfl, dv⟩ := dvs.un
  obtain ⟨a, vs, rfl, hq, ds⟩ := asL_at hr dv e
  rw [ds.ints] at hq
  exact ⟨a, ns, rfl, hq, hn, fun m h1 h2 => k ρ (.int m) h _ H .refl hr rfl (q m h1 h2)⟩
end
section
variable {X : Cx} {W : WX} {pos p : Pos} {e : Expr} {es : List Expr} {ts : DA}
theorem call_len2 : CallR X (.builtin "len") (fun xs H Q => (∃ p ys, xs = [.ref p] ∧ (SqL X.K H p ys ∨ SqT X.K H p ys) ∧ Q (.int ys.length) H) ∨ ∃ z, xs = [.str z] ∧ z.length ≤ sizeLine ∧ Q (.int z.length) H) := call_len_seq.or call_len_str
theorem se_len (hm : X.mg "len" = none) (ha : SA X W (e :: es) ts) (hg : Gl X "len" := by rfl) (he : starEach (e :: es) X.env = (false, eval e X.env) :: starEach es X.env := by rfl) (hpl : (backTo pos (starEach es X.env)).any (·.1) = false := by rfl) : SE X W (.Call (.Name "len" p) (e :: es) [] pos) (dCB nLen ts) := se_cb call_len2 L_len hg hm PySem.boot_len ha (he := he) (hpl := hpl)
theorem se_tuple (hm : X.mg "tuple" = none) (ha : SA X W (e :: es) ts) (hg : Gl X "tuple" := by rfl) (he : starEach (e :: es) X.env = (false, eval e X.env) :: starEach es X.env := by rfl) (hpl : (backTo pos (starEach es X.env)).any (·.1) = false := by rfl) : SE X W (.Call (.Name "tuple" p) (e :: es) [] pos) (dCB nTup ts) := se_ct call_tuple_of L_tup hg hm (by decide +kernel) ha (he := he) (hpl := hpl)
theorem se_list (hm : X.mg "list" = none) (ha : SA X W (e :: es) ts) (hg : Gl X "list" := by rfl) (he : starEach (e :: es) X.env = (false, eval e X.env) :: starEach es X.env := by rfl) (hpl : (backTo pos (starEach es X.env)).any (·.1) = false := by rfl) : SE X W (.Call (.Name "list" p) (e :: es) [] pos) (dCB nLst ts) := se_ct call_list_of L_lst hg hm (by decide +kernel) ha (he := he) (hpl := hpl)
theorem se_listH (hm : X.mg "list" = none) (ha : SA X W (e :: es) ts) (hg : Gl X "list" := by rfl) (he : starEach (e :: es) X.env = (false, eval e X.env) :: starEach es X.env := by rfl) (hpl : (backTo pos (starEach es X.env)).any (·.1) = false := by rfl) : SE X W (.Call (.Name "list" p) (e :: es) [] pos) (dCB nLstH ts) := se_ct call_list_of L_lstH hg hm (by decide +kernel) ha (he := he) (hpl := hpl)
theorem se_intc (hm : X.mg "int" = none) (ha : SA X W (e :: es) ts) (hg : Gl X "int" := by rfl) (he : starEach (e :: es) X.env = (false, eval e X.env) :: starEach es X.env := by rfl) (hpl : (backTo pos (starEach es X.env)).any (·.1) = false := by rfl) : SE X W (.Call (.Name "int" p) (e :: es) [] pos) (dCB nInt ts) := se_ct call_int1 L_int hg hm (by decide +kernel) ha (he := he) (hpl := hpl)
theorem se_strc (hm : X.mg "str" = none) (ha : SA X W (e :: es) ts) (hg : Gl X "str" := by rfl) (he : starEach (e :: es) X.env = (false, eval e X.env) :: starEach es X.env := by rfl) (hpl : (backTo pos (starEach es X.env)).any (·.1) = false := by rfl) : SE X W (.Call (.Name "str" p) (e :: es) [] pos) (dCB nStr ts) := se_ct call_str_int L_str hg hm (by decide +kernel) ha (he := he) (hpl := hpl)
theorem se_abs (hm : X.mg "abs" = none) (ha : SA X W (e :: es) ts) (hg : Gl X "abs" := by rfl) (he : starEach (e :: es) X.env = (false, eval e X.env) :: starEach es X.env := by rfl) (hpl : (backTo pos (starEach es X.env)).any (·.1) = false := by rfl) : SE X W (.Call (.Name "abs" p) (e :: es) [] pos) (dCB nAbs ts) := se_cb call_abs L_abs hg hm (by decide +kernel) ha (he := he) (hpl := hpl)
theorem se_max2 (hc : X.calm = true) (hm : X.mg "max" = none) (ha : SA X W (e :: es) ts) (hg : Gl X "max" := by rfl) (he : starEach (e :: es) X.env = (false, eval e X.env) :: starEach es X.env := by rfl) (hpl : (backTo pos (starEach es X.env)).any (·.1) = false := by rfl) : SE X W (.Call (.Name "max" p) (e :: es) [] pos) (dCB (nI2 fun i j => if j > i then j else i) ts) := se_cb (call_max2 hc) L_I2 hg hm (by decide +kernel) ha (he := he) (hpl := hpl)
theorem se_min2 (hc : X.calm = true) (hm : X.mg "min" = none) (ha : SA X W (e :: es) ts) (hg : Gl X "min" := by rfl) (he : starEach (e :: es) X.env = (false, eval e X.env) :: starEach es X.env := by rfl) (hpl : (backTo pos (starEach es X.env)).any (·.1) = false := by rfl) : SE X W (.Call (.Name "min" p) (e :: es) [] pos) (dCB (nI2 fun i j => if j < i then j else i) ts) := se_cb (call_min2 hc) L_I2 hg hm (by decide +kernel) ha (he := he) (hpl := hpl)
theorem se_sum (hc : X.calm = true) (hm : X.mg "sum" = none) (ha : SA X W (e :: es) ts) (hg : Gl X "sum" := by rfl) (he : starEach (e :: es) X.env = (false, eval e X.env) :: starEach es X.env := by rfl) (hpl : (backTo pos (starEach es X.env)).any (·.1) = false := by rfl) : SE X W (.Call (.Name "sum" p) (e :: es) [] pos) (dCB nSum ts) := se_cb (cr_sum hc) L_sum hg hm (by decide +kernel) ha (he := he) (hpl := hpl)
theorem se_all (hc : X.calm = true) (hm : X.mg "all" = none) (ha : SA X W (e :: es) ts) (hg : Gl X "all" := by rfl) (he : starEach (e :: es) X.env = (false, eval e X.env) :: starEach es X.env := by rfl) (hpl : (backTo pos (starEach es X.env)).any (·.1) = false := by rfl) : SE X W (.Call (.Name "all" p) (e :: es) [] pos) (dCB nAll ts) := se_cb (cr_all hc) L_all hg hm (by decide +kernel) ha (he := he) (hpl := hpl)
theorem se_any (hc : X.calm = true) (hm : X.mg "any" = none) (ha : SA X W (e :: es) ts) (hg : Gl X "any" := by rfl) (he : starEach (e :: es) X.env = (false, eval e X.env) :: starEach es X.env := by rfl) (hpl : (backTo pos (starEach es X.env)).any (·.1) = false := by rfl) : SE X W (.Call (.Name "any" p) (e :: es) [] pos) (dCB nAny ts) := se_cb (cr_any hc) L_any hg hm (by decide +kernel) ha (he := he) (hpl := hpl)
theorem se_max1 (hc : X.calm = true) (hm : X.mg "max" = none) (ha : SA X W (e :: es) ts) (hg : Gl X "max" := by rfl) (he : starEach (e :: es) X.env = (false, eval e X.env) :: starEach es X.env := by rfl) (hpl : (backTo pos (starEach es X.env)).any (·.1) = false := by rfl) : SE X W (.Call (.Name "max" p) (e :: es) [] pos) (dCB nMax ts) := se_cb (cr_max hc) L_max hg hm (by decide +kernel) ha (he := he) (hpl := hpl)
theorem se_min1 (hc : X.calm = true) (hm : X.mg "min" = none) (ha : SA X W (e :: es) ts) (hg : Gl X "min" := by rfl) (he : starEach (e :: es) X.env = (false, eval e X.env) :: starEach es X.env := by rfl) (hpl : (backTo pos (starEach es X.env)).any (·.1) = false := by rfl) : SE X W (.Call (.Name "min" p) (e :: es) [] pos) (dCB nMin ts) := se_cb (cr_min hc) L_min hg hm (by decide +kernel) ha (he := he) (hpl := hpl)
/-! ### what range walks -/
variable {a b : Expr}
theorem si_range1 (hm : X.mg "range" = none) (ha : SA X W [a] ts) {tg : Expr} (hg : Gl X "range" := by rfl) (hs : starEach [a] X.env = [(false, eval a X.env)] := by rfl) : SI X W tg (.Call (.Name "range" p) [a] [] pos) (iR1 ts) :=
  PI.imp (pi_range1 hg hm ha hs) fun σ H R w => by
    obtain ⟨ρ, σd, h, Xd, Qd, hr, sr, w, kx, k⟩ := w
    refine ⟨ρ, σd, h, Xd, _, hr, sr, w, kx, fun ρ1 ds h1 vs H1 e1 hr1 dvs q => ?_⟩
    obtain ⟨j, rfl, hj, q⟩ := q
    obtain ⟨v, rfl, dv⟩ := dvs.un
    have ev : v = .int j := dv
    subst ev
    exact ⟨j, rfl, hj.2.2.1, hj.2.2.2, k ρ1 _ _ h1 _ H1 e1 hr1 it_range q⟩
theorem si_range2 (hm : X.mg "range" = none) (ha : SA X W [a, b] ts) {tg : Expr} (hg : Gl X "range" := by rfl) (hs : starEach [a, b] X.env = [(false, eval a X.env), (false, eval b X.env)] := by rfl) (hs2 : starEach [b] X.env = [(false, eval b X.env)] := by rfl) : SI X W tg (.Call (.Name "range" p) [a, b] [] pos) (iR2 ts) :=
  PI.imp (pi_range2 hg hm ha hs hs2) fun σ H R w => by
    obtain ⟨ρ, σd, h, Xd, Qd, hr, sr, w, kx, k⟩ := w
    refine ⟨ρ, σd, h, Xd, _, hr, sr, w, kx, fun ρ1 ds h1 vs H1 e1 hr1 dvs q => ?_⟩
    obtain ⟨i, j, rfl, hj, q⟩ := q
    obtain ⟨v, v', rfl, d1, d2⟩ := dvs.bi
    have e1' : v = .int i := d1
    have e2' : v' = .int j := d2
    subst e1' e2'
    exact ⟨i, j, rfl, hj, k ρ1 _ _ h1 _ H1 e1 hr1 it_range q⟩

/-! ### methods of built-in types -/
abbrev DM := D → List D → DHp → DK → Prop
def LMok (K : PySem.W.Frag) (op : DM) (r : V → List V → Hp → VK → Prop) : Prop := ∀ ρ h H x xs v vs Qd Q, HR K ρ h H → DV K ρ H x v → DVs K ρ H xs vs → op x xs h Qd →
  (∀ ρ' d h' v H', Ext ρ H ρ' H' → HR K ρ' h' H' → DV K ρ' H' d v → Qd d h' → Q v H') → r v vs H Q
/-- of the type T -/
def tyM (T : String) (h : DHp) (d : D) : Prop := (T = "list" ∧ ∃ l, asL h d = some l) ∨ (T = "str" ∧ ∃ z, d = .str z) ∨ (T = "int" ∧ ∃ i, d = .int i)
theorem tyM_at {K : PySem.W.Frag} {ρ : List Addr} {h : DHp} {H : Hp} {T : String} {d : D} {v : V} (hr : HR K ρ h H) (dv : DV K ρ H d v) (t : tyM T h d) : tyV K T v H := by
  rcases t with ⟨rfl, l, e⟩ | ⟨rfl, z, rfl⟩ | ⟨rfl, i, rfl⟩
  · obtain ⟨a, vs, rfl, hq, _⟩ := asL_at hr dv e
    exact .inl ⟨rfl, vs, hq⟩
  · have ev : v = .str z := dv
    subst ev; exact rfl
  · have ev : v = .int i := dv
    subst ev; exact rfl
def dBM (T : String) (op : DM) (dd : DE) (ts : DA) : DE := fun σ h X Q => dd σ h X fun x h1 => tyM T h1 x ∧ ts σ h1 X fun xs h2 => op x xs h2 Q
def dBM0 (T : String) (op : DM) (dd : DE) : DE := fun σ h X Q => dd σ h X fun x h1 => tyM T h1 x ∧ op x [] h1 Q
section
variable {o : Expr} {dd : DE} {name : Str} {apos cpos : Pos} {T id : String} {r : V → List V → Hp → VK → Prop} {op : DM}
theorem se_bm0 (pa : PlainAttrs T) (slot : Slot T name id) (hty : typeOf (.builtin id) = pure (.type "method_descriptor")) (hm : MtR X id r) (L : LMok X.K op r) (ho : SE X W o dd)
    (hbase : attributeBase o name X.env (eval o X.env) = eval o X.env := by rfl) (hline : (apos.endLine == cpos.line) = true := by rfl) : SE X W (.Call (.Attribute o name apos) [] [] cpos) (dBM0 T op dd) := PE.imp (pe_bm0 pa slot hty hm ho hbase hline) fun σ H Q w => by
  obtain ⟨ρ, σd, h, Xd, Qd, hr, sr, w, kx, k⟩ := w
  refine ⟨ρ, σd, h, Xd, _, hr, sr, w, kx, fun ρ1 d h1 v H1 e1 hr1 dv q => ⟨tyM_at hr1 dv q.1, ?_⟩⟩
  exact L ρ1 h1 H1 d [] v [] Qd Q hr1 dv rfl q.2 fun ρ' d h' v H' e => k ρ' d h' v H' (e1.trans e)
theorem se_bm (pa : PlainAttrs T) (slot : Slot T name id) (hty : typeOf (.builtin id) = pure (.type "method_descriptor")) (hm : MtR X id r) (L : LMok X.K op r) (ho : SE X W o dd) (ha : SA X W (e :: es) ts)
    (hbase : attributeBase o name X.env (eval o X.env) = eval o X.env := by rfl)
    (hfew : ((backTo cpos (starEach (e :: es) X.env)).all (fun x => !x.1) && (backToKw cpos (keywordEach [] X.env)).all (fun x => x.1.isSome)
      && decide ((e :: es).length + ([] : List Keyword).length + (if ([] : List Keyword).isEmpty then 0 else 1) < 30)) = true := by rfl)
    (hline : (apos.endLine == cpos.line) = true := by rfl) (hs : starEach (e :: es) X.env = (false, eval e X.env) :: starEach es X.env := by rfl) (hplain : (backTo cpos (starEach es X.env)).any (·.1) = false := by rfl) :
    SE X W (.Call (.Attribute o name apos) (e :: es) [] cpos) (dBM T op dd ts) := PE.imp (pe_bm pa slot hty hm ho ha hbase hfew hline hs hplain) fun σ H Q w => by
  obtain ⟨ρ, σd, h, Xd, Qd, hr, sr, w, kx, k⟩ := w
  refine lE.go hr sr w kx fun ρ1 d h1 v H1 e1 hr1 sr1 kx1 dv q => ⟨tyM_at hr1 dv q.1, ?_⟩
  refine lA.go hr1 sr1 q.2 kx1 fun ρ2 ds h2 vs H2 e2 hr2 sr2 kx2 dvs q2 => ?_
  exact L ρ2 h2 H2 d ds v vs Qd Q hr2 (dv.ext e2) dvs q2 fun ρ' d h' v H' e => k ρ' d h' v H' ((e1.trans e2).trans e)
end
section
variable {K : PySem.W.Frag}
def mApp : DM := fun x xs h Q => ∃ i l y, x = .ref i ∧ xs = [y] ∧ h[i]? = some (.lst l) ∧ l.length < sizeLine ∧ Q .non (h.set i (.lst (l ++ [y])))
theorem L_app : LMok K mApp rAppend := by
  intro ρ h H x xs v vs Qd Q hr dx dvs w k
  obtain ⟨i, l, y, rfl, rfl, hi, hz, q⟩ := w
  obtain ⟨u, rfl, du⟩ := dvs.un
  obtain ⟨a, ws, rfl, hj, hH, dl⟩ := ref_lst hr dx hi
  obtain ⟨a1, a2⟩ := write_lst hr hj (dl.append (.one du))
  exact ⟨a, ws, u, rfl, rfl, hH, by rw [dl.length]; exact hz, k ρ .non _ _ _ a2 a1 rfl q⟩
def mPop : DM := fun x xs h Q => ∃ i l y, x = .ref i ∧ xs = [] ∧ h[i]? = some (.lst l) ∧ l[l.length - 1]? = some y ∧ Q y (h.set i (.lst l.dropLast))
theorem DVs.dropLast {ρ : List Addr} {H : Hp} {l : List D} {vs : List V} (d : DVs K ρ H l vs) : DVs K ρ H l.dropLast vs.dropLast := by
  rw [List.dropLast_eq_take, List.dropLast_eq_take, d.length]; exact d.take _
theorem DVs.eraseIdx {ρ : List Addr} {H : Hp} {l : List D} {vs : List V} (n : Nat) (d : DVs K ρ H l vs) : DVs K ρ H (l.eraseIdx n) (vs.eraseIdx n) := by
  rw [List.eraseIdx_eq_take_drop_succ, List.eraseIdx_eq_take_drop_succ]; exact (d.take _).append (d.drop _)
theorem L_pop : LMok K mPop rPop := by
  intro ρ h H x xs v vs Qd Q hr dx dvs w k
  obtain ⟨i, l, y, rfl, rfl, hi, hy, q⟩ := w
  have ev : vs = [] := dvs
  subst ev
  obtain ⟨a, ws, rfl, hj, hH, dl⟩ := ref_lst hr dx hi
  obtain ⟨u, hu, du⟩ := dl.get hy
  obtain ⟨a1, a2⟩ := write_lst hr hj dl.dropLast
  exact ⟨a, ws, u, rfl, rfl, hH, by rw [dl.length]; exact hu, k ρ y _ _ _ a2 a1 (du.ext a2) q⟩
def mPopAt : DM := fun x xs h Q => ∃ i l j n y, x = .ref i ∧ xs = [.int j] ∧ h[i]? = some (.lst l) ∧ -(2 ^ 63) ≤ j ∧ j < 2 ^ 63 ∧ seqIndex? j l.length = some n ∧ l[n]? = some y ∧ Q y (h.set i (.lst (l.eraseIdx n)))
theorem L_popAt : LMok K mPopAt rPopAt := by
  intro ρ h H x xs v vs Qd Q hr dx dvs w k
  obtain ⟨i, l, j, n, y, rfl, rfl, hi, b1, b2, hn, hy, q⟩ := w
  obtain ⟨u', rfl, du'⟩ := dvs.un
  have ev : u' = .int j := du'
  subst ev
  obtain ⟨a, ws, rfl, hj, hH, dl⟩ := ref_lst hr dx hi
  obtain ⟨u, hu, du⟩ := dl.get hy
  obtain ⟨a1, a2⟩ := write_lst hr hj (dl.eraseIdx n)
  exact ⟨a, ws, j, n, u, rfl, rfl, hH, b1, b2, by rw [dl.length]; exact hn, hu, k ρ y _ _ _ a2 a1 (du.ext a2) q⟩
def mExt : DM := fun x xs h Q => ∃ i l y m, x = .ref i ∧ xs = [y] ∧ h[i]? = some (.lst l) ∧ asX h y = some m ∧ l.length + m.length ≤ sizeLine ∧ Q .non (h.set i (.lst (l ++ m)))
theorem L_ext : LMok K mExt rExtend := by
  intro ρ h H x xs v vs Qd Q hr dx dvs w k
  obtain ⟨i, l, y, m, rfl, rfl, hi, hm, hz, q⟩ := w
  obtain ⟨u, rfl, du⟩ := dvs.un
  obtain ⟨a, ws, rfl, hj, hH, dl⟩ := ref_lst hr dx hi
  obtain ⟨b, us, rfl, hB, dm⟩ := asX_at hr du hm
  obtain ⟨a1, a2⟩ := write_lst hr hj (dl.append dm)
  exact ⟨a, b, ws, us, rfl, rfl, hH, hB, by rw [dl.length, dm.length]; exact hz, k ρ .non _ _ _ a2 a1 rfl q⟩
end
theorem se_append {o : Expr} {dd : DE} {apos : Pos} (ho : SE X W o dd) (ha : SA X W (e :: es) ts) (hbase : attributeBase o "append" X.env (eval o X.env) = eval o X.env := by rfl)
    (hfew : ((backTo pos (starEach (e :: es) X.env)).all (fun x => !x.1) && (backToKw pos (keywordEach [] X.env)).all (fun x => x.1.isSome)
      && decide ((e :: es).length + ([] : List Keyword).length + (if ([] : List Keyword).isEmpty then 0 else 1) < 30)) = true := by rfl)
    (hline : (apos.endLine == pos.line) = true := by rfl) (hs : starEach (e :: es) X.env = (false, eval e X.env) :: starEach es X.env := by rfl) (hplain : (backTo pos (starEach es X.env)).any (·.1) = false := by rfl) :
    SE X W (.Call (.Attribute o "append" apos) (e :: es) [] pos) (dBM "list" mApp dd ts) := se_bm PySem.F.plainAttrs_list PySem.F.slot_list_append PySem.F.type_list_append mt_append L_app ho ha hbase hfew hline hs hplain
/-- n.bit_length() -/
def dBits (dd : DE) : DE := fun σ h X Q => dd σ h X fun x h1 => ∃ i, x = .int i ∧ Q (.int (Builtin.Int.intBits i : Nat)) h1
theorem se_bits {o : Expr} {dd : DE} {apos : Pos} (ho : SE X W o dd) (hbase : attributeBase o "bit_length" X.env (eval o X.env) = eval o X.env := by rfl) (hline : (apos.endLine == pos.line) = true := by rfl) :
    SE X W (.Call (.Attribute o "bit_length" apos) [] [] pos) (dBits dd) := PE.imp (pe_bits ho hbase hline) fun σ H Q w => by
  obtain ⟨ρ, σd, h, Xd, Qd, hr, sr, w, kx, k⟩ := w
  refine ⟨ρ, σd, h, Xd, _, hr, sr, w, kx, fun ρ1 d h1 v H1 e1 hr1 dv q => ?_⟩
  obtain ⟨i, rfl, q⟩ := q
  exact ⟨i, dv, k ρ1 (.int (Builtin.Int.intBits i : Nat)) h1 _ H1 e1 hr1 rfl q⟩

/-! ### slices -/
abbrev DO := DSt → DHp → DX → (Option Int → DHp → Prop) → Prop
def lO (K : PySem.W.Frag) (W : WX) (t : DO) : TO := fun σ H Q => ∃ ρ σd h Xd Qd, HR K ρ h H ∧ SR K ρ H σd σ ∧ t σd h Xd Qd ∧ XW K W ρ H σd σ Xd ∧
  ∀ ρ' o h' H', Ext ρ H ρ' H' → HR K ρ' h' H' → Qd o h' → Q o H'
abbrev SO (X : Cx) (W : WX) (o : Option Expr) (t : DO) : Prop := PO X o (lO X.K W t)
theorem PO.imp {o : Option Expr} {t t' : TO} (h : PO X o t) (i : ∀ σ H Q, t' σ H Q → t σ H Q) : PO X o t' := ⟨fun pins s σ H Q I w => h.run pins s σ H Q I (i σ H Q w)⟩
def oNon : DO := fun _ h _ Q => Q none h
def oSome (de : DE) : DO := fun σ h X Q => de σ h X fun d h1 => ∃ i, d = .int i ∧ Q (some i) h1
theorem so_none : SO X W none oNon := PO.imp po_none fun σ H Q w => by
  obtain ⟨ρ, σd, h, Xd, Qd, hr, sr, w, kx, k⟩ := w
  exact k ρ none h H .refl hr w
theorem so_some {de : DE} (he : SE X W e de) : SO X W (some e) (oSome de) := PO.imp (po_some he) fun σ H Q w => by
  obtain ⟨ρ, σd, h, Xd, Qd, hr, sr, w, kx, k⟩ := w
  refine ⟨ρ, σd, h, Xd, _, hr, sr, w, kx, fun ρ1 d h1 v H1 e1 hr1 dv q => ?_⟩
  obtain ⟨i, rfl, q⟩ := q
  exact ⟨i, dv, k ρ1 (some i) h1 H1 e1 hr1 q⟩
def cutD (l : List D) (lo hi : Option Int) : List D := (l.drop (HT.sIx l.length 0 lo)).take (HT.sIx l.length l.length hi - HT.sIx l.length 0 lo)
theorem DVs.cut' {K : PySem.W.Frag} {ρ : List Addr} {H : Hp} {l : List D} {vs : List V} (d : DVs K ρ H l vs) (lo hi : Option Int) : DVs K ρ H (cutD l lo hi) (cutV vs lo hi) := by
  unfold cutD cutV
  rw [d.length]
  exact (d.drop _).take _
/-- x[lo:hi]: a list (not to be changed), a tuple -/
def dSl (dd : DE) (tl th : DO) : DE := fun σ h X Q => dd σ h X fun x h1 => tl σ h1 X fun lo h2 => th σ h2 X fun hi h3 => match x with
  | .tup l => Q (.tup (cutD l lo hi)) h3
  | x => ∃ l, asL h3 x = some l ∧ Q (.lst (cutD l lo hi)) h3
def dSlH (dd : DE) (tl th : DO) : DE := fun σ h X Q => dd σ h X fun x h1 => tl σ h1 X fun lo h2 => th σ h2 X fun hi h3 => ∃ l, asL h3 x = some l ∧ Q (.ref h3.length) (h3 ++ [.lst (cutD l lo hi)])
end
end L2.MW

/-! MW, part G: slices, isinstance, contracts of defs. -/
namespace L2.MW
open PySem PySem.Spec PyProof.Rows
section
variable {X : Cx} {W : WX} {pos p p2 : Pos} {e : Expr} {es : List Expr} {ts : DA} {lo hi : Option Expr} {de : DE} {tl th : DO}
/-! ### slices -/
theorem sl_go {K : PySem.W.Frag} {r : V → Option Int → Option Int → Hp → VK → Prop} {f : D → Option Int → Option Int → DHp → DK → Prop} {σ : St} {H : Hp} {Q : VK}
    (L : ∀ ρ h H x v l u Qd Q, HR K ρ h H → DV K ρ H x v → f x l u h Qd → (∀ ρ' d h' v H', Ext ρ H ρ' H' → HR K ρ' h' H' → DV K ρ' H' d v → Qd d h' → Q v H') → r v l u H Q)
    (w : lE K W (fun σ h X Q => de σ h X fun x h1 => tl σ h1 X fun l h2 => th σ h2 X fun u h3 => f x l u h3 Q) σ H Q) : tSl r (lE K W de) (lO K W tl) (lO K W th) σ H Q := by
  obtain ⟨ρ, σd, h, Xd, Qd, hr, sr, w, kx, k⟩ := w
  refine lE.go hr sr w kx fun ρ1 d1 h1 v1 H1 e1 hr1 sr1 kx1 dv1 w1 => ?_
  refine ⟨ρ1, σd, h1, Xd, _, hr1, sr1, w1, kx1, fun ρ2 l h2 H2 e2 hr2 w2 => ?_⟩
  refine ⟨ρ2, σd, h2, Xd, _, hr2, sr1.ext e2, w2, kx1.ext e2, fun ρ3 u h3 H3 e3 hr3 w3 => ?_⟩
  exact L ρ3 h3 H3 d1 v1 l u Qd Q hr3 (dv1.ext (e2.trans e3)) w3 fun ρ' d h' v H' e => k ρ' d h' v H' ((e1.trans (e2.trans e3)).trans e)
theorem se_slice (he : SE X W e de) (hl : SO X W lo tl) (hu : SO X W hi th) : SE X W (.Subscript e (.Slice lo hi none p2) pos) (dSl de tl th) := PE.imp (pe_slice (sl_tupA.or sl_list) he hl hu) fun σ H Q w => by
  refine sl_go (f := fun x lo hi h3 Q => match x with | .tup l => Q (.tup (cutD l lo hi)) h3 | x => ∃ l, asL h3 x = some l ∧ Q (.lst (cutD l lo hi)) h3) (fun ρ h H x v l u Qd Q hr dx w k => ?_) w
  have lists : (∃ m, asL h x = some m ∧ Qd (.lst (cutD m l u)) h) → rSlA X.K v l u H Q ∨ rSlL X.K v l u H Q := by
    rintro ⟨m, em, q⟩
    obtain ⟨a, vs, rfl, hq, dvs⟩ := asL_at hr dx em
    exact .inr ⟨a, vs, rfl, hq, fun p np => k ρ _ h _ _ (.new1 np) (hr.new1 np) (.lstNew hr np (dvs.cut' l u)) q⟩
  cases x with
  | tup m =>
    have dx' := dx
    obtain ⟨a, vs, rfl, h1, dvs⟩ := dx
    refine .inl ⟨a, vs, rfl, h1.sq, fun hw => ?_, fun _ p np => k ρ _ h _ _ (.new1 np) (hr.new1 np) (.tupNew hr np (dvs.cut' l u)) w⟩
    have ec : cutD m l u = m := by
      unfold cutD
      rw [dvs.length] at hw
      rw [hw.1, hw.2, List.drop_zero, Nat.sub_zero, List.take_length]
    have w' : Qd (.tup (cutD m l u)) h := w
    rw [ec] at w'
    exact k ρ (.tup m) h _ H .refl hr dx' w'
  | lst _ => exact lists w
  | fz _ => exact lists w
  | ref _ => exact lists w
  | non => exact lists w
  | bl _ => exact lists w
  | int _ => exact lists w
  | str _ => exact lists w
  | obj _ _ => exact lists w
  | ty _ => exact lists w
  | cls _ => exact lists w
  | exn _ _ _ _ => exact lists w
theorem se_sliceH (he : SE X W e de) (hl : SO X W lo tl) (hu : SO X W hi th) : SE X W (.Subscript e (.Slice lo hi none p2) pos) (dSlH de tl th) := PE.imp (pe_slice sl_list he hl hu) fun σ H Q w => by
  refine sl_go (f := fun x lo hi h3 Q => ∃ l, asL h3 x = some l ∧ Q (D.ref h3.length) (h3 ++ [HB.lst (cutD l lo hi)])) (fun ρ h H x v l u Qd Q hr dx w k => ?_) w
  obtain ⟨m, em, q⟩ := w
  obtain ⟨a, vs, rfl, hq, dvs⟩ := asL_at hr dx em
  refine ⟨a, vs, rfl, hq, fun p np => ?_⟩
  obtain ⟨a1, a2⟩ := push_lst hr np (dvs.cut' l u)
  exact k _ _ _ _ _ (.push np) a1 a2 q

/-! ### isinstance -/
def tys : List String := ["NoneType", "bool", "int", "str", "tuple", "list"]
def tyD (h : DHp) : D → Option D
  | .non => some (.ty "NoneType")
  | .bl _ => some (.ty "bool")
  | .int _ => some (.ty "int")
  | .str _ => some (.ty "str")
  | .tup _ => some (.ty "tuple")
  | .lst _ => some (.ty "list")
  | .fz _ => some (.ty "list")
  | .ref i => (match h[i]? with
    | some (.lst _) => some (.ty "list")
    | some (.ins c _) => some (.cls c)
    | _ => none)
  | .obj c _ => some (.cls c)
  | _ => none
def isaD (cs : List String) : D → D → Option Bool
  | .ty a, .ty b => if a ∈ tys ∧ b ∈ tys then some (a == b || (a == "bool" && b == "int")) else none
  | .ty a, .cls c => if a ∈ tys ∧ c ∈ cs then some false else none
  | .cls c, .ty b => if c ∈ cs ∧ b ∈ tys then some false else none
  | .cls c, .cls c' => if c ∈ cs ∧ c' ∈ cs then some (c == c') else none
  | _, _ => none
def isaAny (cs : List String) (t : D) : List D → Option Bool
  | [] => some false
  | c :: r => match isaD cs t c with
    | some true => some true
    | some false => isaAny cs t r
    | none => none
def clsVal (K : PySem.W.Frag) : D → Value
  | .ty n => .type n
  | .cls c => .ref (He.ga K (Str.ofString c))
  | _ => .none
/-- what the written part says of the plain classes -/
def kitFB (K : PySem.W.Frag) (cs : List String) : Bool :=
  cs.all fun c => (He.Fa.cls (Str.ofString c)).ok K && (decide (PySem.W.findIn K (.ref (He.ga K (Str.ofString c))) "__class__" = some (some (.builtin "object.__class__"))) &&
    (decide (PySem.W.specialIn K (.builtin "object.__class__") "__get__" = some (some (.builtin "getset_descriptor.__get__"))) && (decide (PySem.W.takesIn K (.builtin "object.__class__") = some true) &&
    (decide (PySem.W.mroIn K (He.ga K (Str.ofString c)) (.type "object") = some true) &&
    (tys.all (fun n => decide (PySem.W.kitOne K (.ref (He.ga K (Str.ofString c))) (.type n) = some false) && decide (PySem.W.kitOne K (.type n) (.ref (He.ga K (Str.ofString c))) = some false)) &&
    cs.all fun c' => decide (PySem.W.kitOne K (.ref (He.ga K (Str.ofString c))) (.ref (He.ga K (Str.ofString c'))) = some (c == c')))))))
structure KitF (K : PySem.W.Frag) (cs : List String) : Prop where
  ok : kitFB K cs = true
theorem kit_tys : ∀ a ∈ tys, ∀ b ∈ tys, kitB a b = some (a == b || (a == "bool" && b == "int")) := by decide +kernel
theorem isaD_ok {K : PySem.W.Frag} {cs : List String} (F : KitF K cs) {t c : D} {b : Bool} (h : isaD cs t c = some b) : PySem.W.kitOne K (clsVal K t) (clsVal K c) = some b := by
  have F' := List.all_eq_true.mp F.ok
  cases t with
  | ty a =>
    cases c with
    | ty n =>
      have h' : (if a ∈ tys ∧ n ∈ tys then some (a == n || (a == "bool" && n == "int")) else none) = some b := h
      split at h'
      · rename_i z
        exact kit_ty ((kit_tys a z.1 n z.2).trans h')
      · cases h'
    | cls c =>
      have h' : (if a ∈ tys ∧ c ∈ cs then some false else none) = some b := h
      split at h'
      · rename_i z
        cases h'
        have q := F' c z.2
        simp only [Bool.and_eq_true, List.all_eq_true, decide_eq_true_eq] at q
        exact (q.2.2.2.2.2.1 a z.1).2
      · cases h'
    | _ => cases h
  | cls c0 =>
    cases c with
    | ty n =>
      have h' : (if c0 ∈ cs ∧ n ∈ tys then some false else none) = some b := h
      split at h'
      · rename_i z
        cases h'
        have q := F' c0 z.1
        simp only [Bool.and_eq_true, List.all_eq_true, decide_eq_true_eq] at q
        exact (q.2.2.2.2.2.1 n z.2).1
      · cases h'
    | cls c =>
      have h' : (if c0 ∈ cs ∧ c ∈ cs then some (c0 == c) else none) = some b := h
      split at h'
      · rename_i z
        cases h'
        have q := F' c0 z.1
        simp only [Bool.and_eq_true, List.all_eq_true, decide_eq_true_eq] at q
        exact q.2.2.2.2.2.2 c z.2
      · cases h'
    | _ => cases h
  | _ => cases c <;> cases h
theorem isaAny_ok {K : PySem.W.Frag} {cs : List String} (F : KitF K cs) {t : D} : ∀ {l : List D} {b : Bool}, isaAny cs t l = some b → PySem.W.kitAny K (clsVal K t) (l.map (clsVal K)) = some b
  | [], _, h => h
  | c :: r, b, h => by
    unfold isaAny at h
    cases q : isaD cs t c with
    | none => rw [q] at h; cases h
    | some b1 =>
      rw [q] at h
      refine kitAny_cons (isaD_ok F q) (fun e => ?_) (fun e => ?_)
      · subst e; exact isaAny_ok F h
      · subst e; cases h; rfl
/-- the class of an own instance is one of cs -/
def tyIn (cs : List String) : D → Prop
  | .cls c => c ∈ cs
  | _ => True
theorem tyD_ok {K : PySem.W.Frag} {cs : List String} {ρ : List Addr} {h : DHp} {H : Hp} (F : KitF K cs) (hr : HR K ρ h H) {x t : D} {v : V} (dv : DV K ρ H x v) (e : tyD h x = some t) (ht : tyIn cs t) : TyX K H v (clsVal K t) := by
  have F' := List.all_eq_true.mp F.ok
  have own : ∀ c a dx ws, c ∈ cs → H a = some (.ins (He.ga K (Str.ofString c)) dx ws) → TyX K H (.ref a) (.ref (He.ga K (Str.ofString c))) := fun c a dx ws hc hH => by
    have q := F' c hc
    simp only [Bool.and_eq_true, List.all_eq_true, decide_eq_true_eq] at q
    exact .base (.ins hH (He.cls_ok q.1) q.2.1 q.2.2.1 q.2.2.2.1 q.2.2.2.2.1)
  cases x with
  | non => have z : v = .non := dv; subst z; cases e; exact .base .non
  | bl b => have z : v = .bl b := dv; subst z; cases e; exact .base (.bl b)
  | int i => have z : v = .int i := dv; subst z; cases e; exact .base (.int i)
  | str z => have z : v = .str z := dv; subst z; cases e; exact .base (.str _)
  | tup l =>
    obtain ⟨a, vs, rfl, h1, _⟩ := dv
    cases e
    exact .base (.tup h1.2)
  | lst l => obtain ⟨a, vs, rfl, h1, _⟩ := dv; cases e; exact .base (.lst h1.2)
  | fz l =>
    obtain ⟨a, vs, rfl, h1, _⟩ := dv
    cases e
    rcases h1 with ⟨_, h1 | ⟨o, h1⟩⟩ | ⟨o, its, n, hk, hc, _⟩
    · exact .base (.lst h1)
    · exact .base (.frz h1)
    · exact .kList hk hc
  | ref i =>
    obtain ⟨a, rfl, hi⟩ := dv
    have e' : (match h[i]? with | some (.lst _) => some (D.ty "list") | some (.ins c _) => some (.cls c) | _ => none) = some t := e
    cases q : h[i]? with
    | none => rw [q] at e'; cases e'
    | some b =>
      rw [q] at e'
      have z := hr.at_ i b a q hi
      cases b with
      | lst l => obtain ⟨vs, z1, _⟩ := z; cases e'; exact .base (.lst z1)
      | ins c fs => obtain ⟨dx, ws, z1, _⟩ := z; cases e'; exact own c a dx ws ht z1
      | dk l => cases e'
      | dt l => cases e'
      | st S n => cases e'
  | obj c fs =>
    obtain ⟨a, dx, ws, rfl, _, z1, _⟩ := dv
    cases e
    exact own c a dx ws ht z1
  | ty _ => cases e
  | cls _ => cases e
  | exn _ _ _ _ => cases e
def isClsD : D → Prop
  | .ty _ => True
  | .cls _ => True
  | _ => False
def nIsi (cs : List String) : DN := fun ds h Q => ∃ x c t b, ds = [x, c] ∧ tyD h x = some t ∧ tyIn cs t ∧ (match c with
  | .tup l => (∀ y ∈ l, isClsD y) ∧ isaAny cs t l = some b
  | c => isaD cs t c = some b) ∧ Q (.bl b) h
theorem clsD_at {K : PySem.W.Frag} {ρ : List Addr} {H : Hp} {c : D} {v : V} (hc : isClsD c) (dv : DV K ρ H c v) : ClsV v (clsVal K c) := by
  cases c with
  | ty n => have z : v = .ty n := dv; subst z; exact .ty n
  | cls n => have z : v = .ref _ := dv; subst z; exact .own _
  | _ => exact hc.elim
theorem clsDs_at {K : PySem.W.Frag} {ρ : List Addr} {H : Hp} : ∀ {l : List D} {vs : List V}, (∀ y ∈ l, isClsD y) → DVs K ρ H l vs → Paired ClsV vs (l.map (clsVal K))
  | [], _, _, d => by rw [show _ = [] from d]; exact .nil
  | c :: l, _, hc, ⟨v, r, e, d1, d2⟩ => by subst e; exact .cons (clsD_at (hc c List.mem_cons_self) d1) (clsDs_at (fun y hy => hc y (List.mem_cons_of_mem _ hy)) d2)
theorem clsV_vals : ∀ {vs : List V} {us ws : List Value}, Paired ClsV vs us → Vals vs ws → ws = us := ClsV.all
theorem isaD_cls {cs : List String} {t c : D} {b : Bool} (h : isaD cs t c = some b) : isClsD c := by
  cases c with
  | ty _ => trivial
  | cls _ => trivial
  | _ => cases t <;> cases h
theorem L_isi {K : PySem.W.Frag} {cs : List String} (F : KitF K cs) : LNok K (nIsi cs) (fun xs H Q => rIsi K xs H Q ∨ rIsiT K xs H Q) := by
  intro ρ h H xs vs Qd Q hr dvs w k
  obtain ⟨x, c, t, b, rfl, ht, hin, hb, q⟩ := w
  obtain ⟨v, v', rfl, d1, d2⟩ := dvs.bi
  have fin := k ρ (.bl b) h _ H .refl hr rfl q
  have ty := tyD_ok F hr d1 ht hin
  have one : isaD cs t c = some b → rIsi K [v, v'] H Q := fun hb => ⟨v, v', clsVal K t, clsVal K c, b, rfl, clsD_at (isaD_cls hb) d2, ty, isaD_ok F hb, fin⟩
  cases c with
  | tup l =>
    obtain ⟨a, ws, rfl, h1, h2⟩ := d2
    exact .inr ⟨v, a, ws, clsVal K t, l.map (clsVal K), b, rfl, h1.2, clsDs_at hb.1 h2, ty, isaAny_ok F hb.2, fin⟩
  | ty n => exact .inl (one hb)
  | cls n => exact .inl (one hb)
  | non => exact .inl (one hb)
  | bl _ => exact .inl (one hb)
  | int _ => exact .inl (one hb)
  | str _ => exact .inl (one hb)
  | lst _ => exact .inl (one hb)
  | fz _ => exact .inl (one hb)
  | ref _ => exact .inl (one hb)
  | obj _ _ => exact .inl (one hb)
  | exn _ _ _ _ => exact .inl (one hb)
theorem se_isi {cs : List String} (F : KitF X.K cs) (hm : X.mg "isinstance" = none) (ha : SA X W (e :: es) ts) (hg : Gl X "isinstance" := by rfl) (he : starEach (e :: es) X.env = (false, eval e X.env) :: starEach es X.env := by rfl) (hpl : (backTo pos (starEach es X.env)).any (·.1) = false := by rfl) :
    SE X W (.Call (.Name "isinstance" p) (e :: es) [] pos) (dCB (nIsi cs) ts) := se_cb (call_isi.or call_isiT) (L_isi F) hg hm (by decide +kernel) ha (he := he) (hpl := hpl)
/-- a built-in class, an own class as a value -/
theorem se_ty {x : Str} {n : String} (hg : Gl X x) (hm : X.mg x = none) (hv : bootBuiltins x = some (.type n)) (hn : x ≠ "__name__" := by decide) (hd : (x == ("__debug__" : Str)) = false := by decide) : SE X W (.Name x pos) (dC (.ty n)) := se_c (pe_bltn (v := .ty n) hg hm hv rfl hn hd) fun _ _ => rfl
theorem se_cls {c : String} (hm : X.mg (Str.ofString c) = some (.ref (He.ga X.K (Str.ofString c)))) (hg : Gl X (Str.ofString c) := by rfl) (hd : ((Str.ofString c) == ("__debug__" : Str)) = false := by decide) : SE X W (.Name (Str.ofString c) pos) (dC (.cls c)) :=
  se_c (pe_glob (v := .ref (He.ga X.K (Str.ofString c))) hg hm rfl hd) fun _ _ => rfl
end

/-! ### contracts -/
abbrev Ct := List D → DHp → DX → DK → Prop
def spOf (K : PySem.W.Frag) (n : Nat) (c : Ct) : Sp := fun vs H Q E => ∃ ρ ds h Xd Qd, ds.length = n ∧ HR K ρ h H ∧ DVs K ρ H ds vs ∧ c ds h Xd Qd ∧
  (∀ ρ' x h' cls d H', Ext ρ H ρ' H' → HR K ρ' h' H' → ExcAt K ρ' H' x cls d → Xd x h' → E cls d H') ∧
  ∀ ρ' d h' v H', Ext ρ H ρ' H' → HR K ρ' h' H' → DV K ρ' H' d v → Qd d h' → Q v H'
/-- the def that the module calls x keeps the contract c -/
structure FnC (P : Program) (w : World) (K : PySem.W.Frag) (mg : Str → Option Value) (base : Heap) (k : Nat) (x : Str) (n : Nat) (c : Ct) : Prop where
  ex : ∃ f fd ps, ps.length = n ∧ FnOk P w K mg base (L2N.CX P w) k f fd ps (spOf K n c) ∧ mg x = some (.ref f) ∧ PySem.W.keepIn K (.ref f) = true ∧ Binds K fd ps []
def dCall (c : Ct) (n : Nat) (ts : DA) : DE := fun σ h X Q => ts σ h X fun ds h1 => ds.length = n ∧ c ds h1 X Q
section
variable {X : Cx} {W : WX} {pos p : Pos} {x : Str} {e : Expr} {es : List Expr} {ts : DA} {c : Ct} {n k : Nat}
theorem se_call (F : FnC X.prog X.w X.K X.mg X.base k x n c) (tk : L2N.Takes X W) (hr : Room k X.A) (ha : SA X W (e :: es) ts) (hg : Gl X x := by rfl) (hdb : (x == ("__debug__" : Str)) = false := by decide) (he : starEach (e :: es) X.env = (false, eval e X.env) :: starEach es X.env := by rfl)
    (hpl : (backTo pos (starEach es X.env)).any (·.1) = false := by rfl) : SE X W (.Call (.Name x p) (e :: es) [] pos) (dCall c n ts) := by
  obtain ⟨f, fd, ps, hps, F, hm, hk, hb⟩ := F.ex
  refine PE.imp (pe_callS F hr hg hm hk hb (fun σ => L2N.passAt tk σ) ha hdb he hpl) fun σ H Q w => ?_
  obtain ⟨ρ, σd, h, Xd, Qd, hr, sr, w, kx, k⟩ := w
  refine lA.go hr sr w kx fun ρ1 ds h1 vs H1 e1 hr1 sr1 kx1 dvs q => ?_
  exact ⟨ρ1, ds, h1, Xd, Qd, q.1, hr1, dvs, q.2, fun ρ' x h' cls d H' e hr' ea z => kx1 ρ' x h' cls d H' e hr' (sr1.ext e) ea z, fun ρ' d h' v H' e => k ρ' d h' v H' (e1.trans e)⟩
end
/-! ### things seen from a smaller heap -/
section
variable {K : PySem.W.Frag} {ρ ρs : List Addr} {H : Hp} {n : Nat}
mutual
theorem DV.sub (hp : ∀ i, i < n → ρs[i]? = ρ[i]?) (hm : ∀ z ∈ ρs, z ∈ ρ) : ∀ (d : D) (v : V), Bd n d → DV K ρ H d v → DV K ρs H d v
  | .ref i, _, b, ⟨a, e, h⟩ => ⟨a, e, (hp i b).trans h⟩
  | .tup l, _, b, ⟨a, vs, e, h1, h2⟩ => ⟨a, vs, e, ⟨fun z => h1.1 (hm _ z), h1.2⟩, DVs.sub hp hm l vs b h2⟩
  | .lst l, _, b, ⟨a, vs, e, h1, h2⟩ => ⟨a, vs, e, ⟨fun z => h1.1 (hm _ z), h1.2⟩, DVs.sub hp hm l vs b h2⟩
  | .fz l, _, b, ⟨a, vs, e, h1, h2⟩ => ⟨a, vs, e, h1.imp (fun z => ⟨fun y => z.1 (hm _ y), z.2⟩) id, DVs.sub hp hm l vs b h2⟩
  | .obj _ fs, _, b, ⟨a, dx, ws, e, o, h1, h2⟩ => ⟨a, dx, ws, e, fun z => o (hm _ z), h1, DFs.sub hp hm fs ws b h2⟩
  | .non, _, _, h => h
  | .bl _, _, _, h => h
  | .int _, _, _, h => h
  | .str _, _, _, h => h
  | .ty _, _, _, h => h
  | .cls _, _, _, h => h
  | .exn _ _ _ fs, _, b, ⟨e, ws, o, h1, h2⟩ => ⟨e, ws, fun z => o (hm _ z), h1, DFs.sub hp hm fs ws b h2⟩
theorem DVs.sub (hp : ∀ i, i < n → ρs[i]? = ρ[i]?) (hm : ∀ z ∈ ρs, z ∈ ρ) : ∀ (ds : List D) (vs : List V), Bds n ds → DVs K ρ H ds vs → DVs K ρs H ds vs
  | [], _, _, h => h
  | d :: ds, _, b, ⟨v, r, e, h1, h2⟩ => ⟨v, r, e, DV.sub hp hm d v b.1 h1, DVs.sub hp hm ds r b.2 h2⟩
theorem DFs.sub (hp : ∀ i, i < n → ρs[i]? = ρ[i]?) (hm : ∀ z ∈ ρs, z ∈ ρ) : ∀ (ds : List (Str × D)) (vs : List (Str × V)), BdF n ds → DFs K ρ H ds vs → DFs K ρs H ds vs
  | [], _, _, h => h
  | p :: ds, _, b, ⟨v, r, e, h1, h2⟩ => ⟨v, r, e, DV.sub hp hm p.2 v b.1 h1, DFs.sub hp hm ds r b.2 h2⟩
end
end
theorem HbAt.sub {K : PySem.W.Frag} {ρ ρs : List Addr} {H : Hp} {n : Nat} (hp : ∀ i, i < n → ρs[i]? = ρ[i]?) (hm : ∀ z ∈ ρs, z ∈ ρ) {a : Addr} {b : HB} (bd : BdB n b) (x : HbAt K ρ H a b) : HbAt K ρs H a b := by
  cases b with
  | lst l => obtain ⟨vs, e1, d⟩ := x; exact ⟨vs, e1, DVs.sub hp hm _ _ bd d⟩
  | ins c fs => obtain ⟨dx, ws, e1, d⟩ := x; exact ⟨dx, ws, e1, DFs.sub hp hm _ _ bd d⟩
  | dk l => obtain ⟨vs, e1, d⟩ := x; exact ⟨vs, e1, DVs.sub hp hm _ _ bd d⟩
  | dt l => obtain ⟨vs, e1, d⟩ := x; exact ⟨vs, e1, DVs.sub hp hm _ _ bd d⟩
  | st S n => exact x
mutual
/-- lists that change no more, at any depth: from n on, but for the one at x -/
inductive FzD (n : Nat) (h : DHp) (x : Option Nat) : D → D → Prop
  | same (d : D) : Bd n d → FzD n h x d d
  | ref (i : Nat) (l l' : List D) : n ≤ i → some i ≠ x → h[i]? = some (.lst l) → FzDs n h x l l' → FzD n h x (.ref i) (.lst l')
  | lst (l l' : List D) : FzDs n h x l l' → FzD n h x (.lst l) (.lst l')
  | tup (l l' : List D) : FzDs n h x l l' → FzD n h x (.tup l) (.tup l')
inductive FzDs (n : Nat) (h : DHp) (x : Option Nat) : List D → List D → Prop
  | nil : FzDs n h x [] []
  | cons (d d' : D) (l l' : List D) : FzD n h x d d' → FzDs n h x l l' → FzDs n h x (d :: l) (d' :: l')
end
section
variable {K : PySem.W.Frag} {ρ ρs : List Addr} {H : Hp} {n : Nat} {h : DHp} {x : Option Nat}
theorem FzD.at_ (hr : HR K ρ h H) (hp : ∀ i, i < n → ρs[i]? = ρ[i]?) (hm : ∀ z ∈ ρs, z ∈ ρ) (ho : ∀ i a, n ≤ i → some i ≠ x → ρ[i]? = some a → a ∉ ρs) {d d' : D} (f : FzD n h x d d') : ∀ v, DV K ρ H d v → DV K ρs H d' v := by
  refine FzD.rec (motive_1 := fun d d' _ => ∀ v, DV K ρ H d v → DV K ρs H d' v) (motive_2 := fun l l' _ => ∀ vs, DVs K ρ H l vs → DVs K ρs H l' vs) ?_ ?_ ?_ ?_ ?_ ?_ f
  · exact fun d b v dv => DV.sub hp hm d v b dv
  · rintro i l l' hi hx hl _ ih v ⟨a, rfl, ha⟩
    obtain ⟨vs, hH, dvs⟩ := hr.at_ i _ a hl ha
    exact ⟨a, vs, rfl, ⟨ho i a hi hx ha, hH⟩, ih vs dvs⟩
  · rintro l l' _ ih v ⟨a, vs, rfl, h1, h2⟩
    exact ⟨a, vs, rfl, ⟨fun z => h1.1 (hm _ z), h1.2⟩, ih vs h2⟩
  · rintro l l' _ ih v ⟨a, vs, rfl, h1, h2⟩
    exact ⟨a, vs, rfl, ⟨fun z => h1.1 (hm _ z), h1.2⟩, ih vs h2⟩
  · exact fun vs dvs => dvs
  · rintro d d' l l' _ _ ih1 ih2 vs ⟨v, r, rfl, h1, h2⟩
    exact ⟨v, r, rfl, ih1 v h1, ih2 r h2⟩
theorem FzDs.at_ (hr : HR K ρ h H) (hp : ∀ i, i < n → ρs[i]? = ρ[i]?) (hm : ∀ z ∈ ρs, z ∈ ρ) (ho : ∀ i a, n ≤ i → some i ≠ x → ρ[i]? = some a → a ∉ ρs) : ∀ {l l' : List D}, FzDs n h x l l' → ∀ vs, DVs K ρ H l vs → DVs K ρs H l' vs
  | _, _, .nil, vs, dvs => dvs
  | _, _, .cons d d' l l' f fs, vs, ⟨v, r, e, h1, h2⟩ => ⟨v, r, e, f.at_ hr hp hm ho v h1, FzDs.at_ hr hp hm ho fs r h2⟩
end
/-- what a call leaves: as it is; without the things made last; a list made in it, which will not change any more -/
inductive CutR (h0 : DHp) : D → DHp → D → DHp → Prop
  | keep (d : D) (h : DHp) : CutR h0 d h d h
  | cut (d : D) (g : DHp) : Bd h0.length d → CutR h0 d (h0 ++ g) d h0
  | frz (i : Nat) (l : List D) (g : DHp) : h0.length ≤ i → (h0 ++ g)[i]? = some (.lst l) → Bds h0.length l → CutR h0 (.ref i) (h0 ++ g) (.lst l) h0
  | fz (d d' : D) (g : DHp) : FzD h0.length (h0 ++ g) none d d' → CutR h0 d (h0 ++ g) d' h0
  | one (i : Nat) (l l' : List D) (g : DHp) : h0.length ≤ i → (h0 ++ g)[i]? = some (.lst l) → FzDs h0.length (h0 ++ g) (some i) l l' → CutR h0 (.ref i) (h0 ++ g) (.ref h0.length) (h0 ++ [.lst l'])
def rtC (h0 : DHp) (Q : DK) : DK := fun d h => ∃ d' h', CutR h0 d h d' h' ∧ Q d' h'
def exC (h0 : DHp) (X : DX) : DX := fun x h => X x h ∨ ∃ g, h = h0 ++ g ∧ BdF h0.length x.fs ∧ X x h0
theorem rt_keep {h0 h : DHp} {Q : DK} {d : D} (q : Q d h) : rtC h0 Q d h := ⟨_, _, .keep d h, q⟩
theorem rt_cut {h0 g : DHp} {Q : DK} {d : D} (b : Bd h0.length d) (q : Q d h0) : rtC h0 Q d (h0 ++ g) := ⟨_, _, .cut d g b, q⟩
theorem rt_frz {h0 g : DHp} {Q : DK} {i : Nat} {l : List D} (hi : h0.length ≤ i) (e : (h0 ++ g)[i]? = some (.lst l)) (b : Bds h0.length l) (q : Q (.lst l) h0) : rtC h0 Q (.ref i) (h0 ++ g) := ⟨_, _, .frz i l g hi e b, q⟩
theorem rt_frz0 {h0 g : DHp} {Q : DK} {l : List D} (b : Bds h0.length l) (q : Q (.lst l) h0) : rtC h0 Q (.ref h0.length) (h0 ++ .lst l :: g) := rt_frz (Nat.le_refl _) (by rw [List.getElem?_append_right (Nat.le_refl _), Nat.sub_self]; rfl) b q
def endsD (h0 : DHp) (X : DX) (Q : DK) : DEnds := { nx := fun _ h => rtC h0 Q .non h, rt := rtC h0 Q, ex := fun x _ h => exC h0 X x h, n0 := h0.length }
def startD (N : Nat) (ds : List D) : DSt := ds.map some ++ List.replicate (N - ds.length) none
theorem CutR.at_ {K : PySem.W.Frag} {ρ0 ρ : List Addr} {h0 h h' : DHp} {H0 H : Hp} {d d' : D} {v : V} (c : CutR h0 d h d' h') (hr0 : HR K ρ0 h0 H0) (e : Ext ρ0 H0 ρ H) (hr : HR K ρ h H) (dv : DV K ρ H d v) : ∃ ρ', Ext ρ0 H0 ρ' H ∧ HR K ρ' h' H ∧ DV K ρ' H d' v := by
  cases c with
  | keep => exact ⟨ρ, e, hr, dv⟩
  | cut _ g b =>
    obtain ⟨t, rfl⟩ := e.pre
    exact ⟨ρ0, e.cut, hr.cut hr0.len hr0.bd, DV.cut _ _ (by rw [hr0.len]; exact b) dv⟩
  | frz i l g hi hl b =>
    obtain ⟨t, rfl⟩ := e.pre
    obtain ⟨a, rfl, hj⟩ := dv
    obtain ⟨vs, hH, dvs⟩ := hr.at_ i _ a hl hj
    refine ⟨ρ0, e.cut, hr.cut hr0.len hr0.bd, a, vs, rfl, ⟨fun z => ?_, hH⟩, DVs.cut _ _ (by rw [hr0.len]; exact b) dvs⟩
    have nd := (List.nodup_append.mp hr.nd).2.2
    rw [List.getElem?_append_right (by rw [hr0.len]; exact hi)] at hj
    exact nd a z a (List.mem_of_getElem? hj) rfl
  | fz _ _ g f =>
    obtain ⟨t, rfl⟩ := e.pre
    have nd := (List.nodup_append.mp hr.nd).2.2
    refine ⟨ρ0, e.cut, hr.cut hr0.len hr0.bd, f.at_ hr (fun i hi => (List.getElem?_append_left (by rw [hr0.len]; exact hi)).symm) (fun z hz => List.mem_append_left _ hz) (fun i a hi _ ha hz => ?_) v dv⟩
    rw [List.getElem?_append_right (by rw [hr0.len]; exact hi)] at ha
    exact nd a hz a (List.mem_of_getElem? ha) rfl
  | one i l l' g hi hl f =>
    obtain ⟨t, rfl⟩ := e.pre
    obtain ⟨a, rfl, hj⟩ := dv
    obtain ⟨vs, hH, dvs⟩ := hr.at_ i _ a hl hj
    have nd := (List.nodup_append.mp hr.nd).2.2
    have hr1 := hr.cut hr0.len hr0.bd
    have hat : a ∈ t := by
      rw [List.getElem?_append_right (by rw [hr0.len]; exact hi)] at hj
      exact List.mem_of_getElem? hj
    have out : a ∉ ρ0 := fun z => nd a z a hat rfl
    have mem : ∀ z ∈ ρ0 ++ [a], z ∈ ρ0 ++ t := fun z hz => by
      rcases List.mem_append.mp hz with hz | hz
      · exact List.mem_append_left _ hz
      · rw [List.mem_singleton.mp hz]; exact List.mem_append_right _ hat
    have ex : Ext ρ0 H0 (ρ0 ++ [a]) H := ⟨⟨[a], rfl⟩, fun z hz hn => e.new z (mem z hz) hn, e.old⟩
    have hlen : ∀ {i : Nat}, i < h0.length → i < ρ0.length := fun hi => by rw [hr0.len]; exact hi
    have ds : DVs K (ρ0 ++ [a]) H l' vs := FzDs.at_ hr (fun j hj2 => by rw [List.getElem?_append_left (hlen hj2), List.getElem?_append_left (hlen hj2)]) mem (fun j b hj1 hx hb hz => by
      rcases List.mem_append.mp hz with hz | hz
      · rw [List.getElem?_append_right (by rw [hr0.len]; exact hj1)] at hb
        exact nd b hz b (List.mem_of_getElem? hb) rfl
      · rw [List.mem_singleton.mp hz] at hb
        exact hx (by rw [Option.some.injEq]; exact (List.getElem?_inj (List.getElem?_eq_some_iff.mp hb).1 hr.nd).mp (hb.trans hj.symm))) f vs dvs
    refine ⟨ρ0 ++ [a], ex, ⟨by rw [List.length_append, List.length_append, hr0.len]; rfl, ?_, fun j b c hb hc => ?_⟩, a, rfl, by rw [← hr0.len, List.getElem?_append_right (Nat.le_refl _), Nat.sub_self]; rfl⟩
    · exact List.nodup_append.mpr ⟨hr0.nd, List.nodup_cons.mpr ⟨nofun, List.nodup_nil⟩, fun y hy z hz ey => out (by rw [← List.mem_singleton.mp hz, ← ey]; exact hy)⟩
    · rcases Nat.lt_or_ge j h0.length with hj3 | hj3
      · rw [List.getElem?_append_left hj3] at hb
        rw [List.getElem?_append_left (hlen hj3)] at hc
        have z := hr.at_ j b c (by rw [List.getElem?_append_left hj3]; exact hb) (by rw [List.getElem?_append_left (hlen hj3)]; exact hc)
        refine HbAt.sub (n := h0.length) (fun k hk => ?_) mem ?_ z
        · rw [List.getElem?_append_left (hlen hk), List.getElem?_append_left (hlen hk)]
        · have := hr0.bd b (List.mem_of_getElem? hb)
          rwa [hr0.len] at this
      · have hj4 : j = h0.length := by
          have := (List.getElem?_eq_some_iff.mp hb).1
          rw [List.length_append, List.length_singleton] at this
          omega
        subst hj4
        rw [List.getElem?_append_right (Nat.le_refl _), Nat.sub_self] at hb
        rw [← hr0.len, List.getElem?_append_right (Nat.le_refl _), Nat.sub_self] at hc
        cases hb
        cases hc
        exact ⟨vs, hH, ds⟩
theorem exc_cut {K : PySem.W.Frag} {ρ0 t : List Addr} {H : Hp} {x : Exc} {cls : Value} {d : Option Addr} (b : BdF ρ0.length x.fs) (h : ExcAt K (ρ0 ++ t) H x cls d) : ExcAt K ρ0 H x cls d := by
  obtain ⟨e, dd, ws, e2, n, hH, dfs⟩ := h
  exact ⟨e, dd, ws, e2, out_app n, hH, DFs.cut _ _ b dfs⟩
/-- a body's readings, whatever frame it runs in -/
def BodyC (P : Program) (w : World) (K : PySem.W.Frag) (mg : Str → Option Value) (base : Heap) (N : List Str) (qual : Str) (scope : Scope) (body : List Stmt) (k : Nat) (tb : DS) : Prop :=
  ∀ (f : Addr) (cd : Value) (A : Around) (outer : List Env) (s : Shared) (H : Hp) (E : XK), Room k (A.deeper (envOfC qual scope s.heap.objs.size f cd)) →
    L2N.Takes (cxOf (L2N.CX P w) P w K mg base N qual scope f cd A outer s H E) (fun cls d _ H' => E cls d H') →
    PassesOwn (model P w) (A.deeper (envOfC qual scope s.heap.objs.size f cd)) (envOfC qual scope s.heap.objs.size f cd) (cxOf (L2N.CX P w) P w K mg base N qual scope f cd A outer s H E).xe →
    SS (cxOf (L2N.CX P w) P w K mg base N qual scope f cd A outer s H E) (fun cls d _ H' => E cls d H') body tb
theorem start_sr {K : PySem.W.Frag} {ρ : List Addr} {H : Hp} {ds : List D} {vs : List V} {N : List Str} (d : DVs K ρ H ds vs) : SR K ρ H (startD N.length ds) (start N vs) := by
  have hl := d.length
  refine ⟨by unfold startD start; simp [hl], fun i x h => ?_⟩
  unfold startD at h
  unfold start
  by_cases hi : i < ds.length
  · rw [List.getElem?_append_left (by simpa using hi), List.getElem?_map] at h
    cases q : ds[i]? with
    | none => rw [q] at h; cases h
    | some y =>
      rw [q] at h
      have e : y = x := by simpa using h
      subst e
      obtain ⟨v, hv, dv⟩ := d.get q
      exact ⟨v, by rw [List.getElem?_append_left (by rw [List.length_map, hl]; exact hi), List.getElem?_map, hv]; rfl, dv⟩
  · rw [List.getElem?_append_right (by simpa using hi), List.getElem?_replicate] at h
    split at h <;> cases h
theorem fn_ok {P : Program} {w : World} {K : PySem.W.Frag} {mg : Str → Option Value} {base : Heap} {k : Nat} {name qual : Str} {params : Arguments} {body : List Stmt} {scope : Scope} {kws : List (Str × V)} {f : Addr} {fd : FuncData} {N ps : List Str} {c : Ct} {tb : DS}
    (F : FunD K name qual params body scope [] kws f fd) (S : FnScope N ps scope) (hb : BodyC P w K mg base N qual scope body k tb)
    (read : ∀ ds h Xd Q, ds.length = ps.length → c ds h Xd Q → tb (endsD h Xd Q) (startD N.length ds) h) : FnOk P w K mg base (L2N.CX P w) (k + 1) f fd ps (spOf K ps.length c) := by
  refine F.ok S (fun vs H Q E h => ?_) (fun cdv A outer s H vs Q E hr h => ?_)
  · obtain ⟨ρ, ds, hp, Xd, Qd, hn, _, dvs, _⟩ := h
    rw [dvs.length]; exact hn
  · obtain ⟨ρ, ds, hp, Xd, Qd, hn, hR, dvs, hc, hx, hq⟩ := h
    refine ⟨_, hb f cdv A outer s H E hr (L2N.takes_of rfl rfl rfl rfl) (passes_of rfl), ρ, H, ρ, startD N.length ds, hp, endsD hp Xd Qd, .refl, hR, start_sr dvs, read ds hp Xd Qd hn hc, ⟨hR.len.symm, ?_, ?_, ?_, ?_, ?_⟩⟩
    · intro ρ1 σd h1 σ H1 e1 hr1 sr1 q
      obtain ⟨d', h', cr, q⟩ := q
      obtain ⟨ρ', e', hr', dv'⟩ := cr.at_ hR e1 hr1 (v := .non) rfl
      exact hq ρ' d' h' _ H1 e' hr' dv' q
    · exact fun _ _ _ _ _ _ _ _ z => z.elim
    · exact fun _ _ _ _ _ _ _ _ z => z.elim
    · intro ρ1 d h1 v H1 e1 hr1 dv q
      obtain ⟨d', h', cr, q⟩ := q
      obtain ⟨ρ', e', hr', dv'⟩ := cr.at_ hR e1 hr1 dv
      exact hq ρ' d' h' _ H1 e' hr' dv' q
    · intro ρ1 x σd h1 cls d σ H1 e1 hr1 sr1 ea q
      rcases q with q | ⟨g, rfl, b, q⟩
      · exact hx ρ1 x h1 cls d H1 e1 hr1 ea q
      · obtain ⟨t, rfl⟩ := e1.pre
        exact hx ρ x hp cls d H1 e1.cut (hr1.cut hR.len hR.bd) (exc_cut (by rw [hR.len]; exact b) ea) q
end L2.MW

/-! MW, part H: making, keywords, sorting, in, o[i] op= e, try that is run through. -/
namespace L2.MW
open PySem PySem.Spec PyProof.Rows

/-! ### making -/
/-- the class c of the module: its __init__ keeps the contract ci (of n arguments, the new one first) -/
structure MkC (P : Program) (w : World) (K : PySem.W.Frag) (mg : Str → Option Value) (base : Heap) (k : Nat) (c : String) (n : Nat) (ci : Ct) : Prop where
  ex : ∃ f fd ps, ps.length = n ∧ Mk K (He.ga K (Str.ofString c)) f ∧ FnOk P w K mg base (L2N.CX P w) k f fd ps (spOf K n ci) ∧ mg (Str.ofString c) = some (.ref (He.ga K (Str.ofString c))) ∧ Binds K fd ps []
/-- what the contract of an __init__ must leave: the new one alone, its fields without it -/
def mkX (h0 : DHp) (X : DX) : DX := fun x h => ∃ g, h = h0 ++ g ∧ BdF h0.length x.fs ∧ X x h0
def mkQ (c : String) (h0 : DHp) (Q : DK) : DK := fun d h => d = .non ∧ ∃ fs g, h = h0 ++ .ins c fs :: g ∧ BdF h0.length fs ∧ Q (.obj c fs) h0
def dMake (c : String) (ci : Ct) (n : Nat) (ts : DA) : DE := fun σ h X Q => ts σ h X fun ds h1 => ds.length + 1 = n ∧ ci (.ref h1.length :: ds) (h1 ++ [.ins c []]) (mkX h1 X) (mkQ c h1 Q)
section
variable {X : Cx} {W : WX} {pos p : Pos} {x : Str} {e : Expr} {es : List Expr} {ts : DA} {ci : Ct} {n k : Nat} {c : String}
def tMakeS (C : Addr) (sp : Sp) (E : St → XK) (t : TA) : TE := fun σ H Q => t σ H fun vs H1 => ∀ x dx, H1 x = none → H1 dx = none → dx ≠ x →
  sp (.ref x :: vs) (upd (upd H1 dx (.own x)) x (.ins C dx [])) (fun v H2 => v = .non ∧ Q (.ref x) H2) (E σ)
theorem run_makeS {C f : Addr} {fd : FuncData} {ps : List Str} {CX : CXT} {sp : Sp} {E : St → XK} {pins : List (Addr × Obj)} {σ : St} {H : Hp} {s : Shared} {Q : VK} {us : List Value} {vs : List V} (M : Mk X.K C f) (F : FnOk X.prog X.w X.K X.mg X.base CX k f fd ps sp) (hr : Room (k + 1) X.A) (hb : Binds X.K fd ps [])
    (hx : PassesAt CX X σ (E σ)) (I : Inv X pins σ H s) (r : Vals vs us)
    (h : ∀ x dx, H x = none → H dx = none → dx ≠ x → sp (.ref x :: vs) (upd (upd H dx (.own x)) x (.ins C dx [])) (fun v H2 => v = .non ∧ Q (.ref x) H2) (E σ)) :
    wpAny (model X.prog X.w) X.A (call (.ref C) us) (EP X pins σ Q) X.xe s := by
  have hq := h (s.heap.objs.size + 1) s.heap.objs.size (I.hok.fresh (Nat.le_succ _)) (I.hok.fresh (Nat.le_refl _)) (Nat.ne_of_lt (Nat.lt_succ_self _))
  have I2 := Inv.made (C := C) I
  have r2 : Vals (V.ref (s.heap.objs.size + 1) :: vs) (Value.ref (s.heap.objs.size + 1) :: us) := .cons rfl r
  have hl : (Value.ref (s.heap.objs.size + 1) :: us).length = ps.length := by
    have e := r2.length
    rw [F.len _ _ _ _ hq] at e
    exact e.symm
  have b := hb { s with heap := (s.heap.push PySem.W.emptyDict).push (PySem.W.instObj C s.heap.objs.size) } (Value.ref (s.heap.objs.size + 1) :: us) I2.kIn (by rw [List.append_nil]; exact hl)
  rw [List.append_nil] at b
  refine wpAny_call (make_map (f := f) I.kIn M.makes M.init (beq_iff_eq.mp M.fn) (codeAny_mono (F.run _ X.stack _ _ ⟨Value.ref (s.heap.objs.size + 1) :: us, []⟩ (Value.ref (s.heap.objs.size + 1) :: us) _ _ (E σ) (hr.make C us [])
    (I2.env0.make C us []) b r2 hq) fun r s' hq' => ?_))
  cases r with
  | error e => exact hx pins _ _ e s' I2 hq'
  | ok fl =>
    cases fl with
    | ret u =>
      obtain ⟨v, H', I3, rv, ev, q3⟩ := I2.after hq'
      subst ev
      exact ⟨rv, ⟨V.ref (s.heap.objs.size + 1), H', I3, rfl, q3⟩⟩
    | next => exact False.elim hq'
    | brk => exact False.elim hq'
    | cont => exact False.elim hq'
theorem pe_makeS {C f : Addr} {fd : FuncData} {ps : List Str} {CX : CXT} {sp : Sp} {E : St → XK} {t : TA} (M : Mk X.K C f) (F : FnOk X.prog X.w X.K X.mg X.base CX k f fd ps sp) (hr : Room (k + 1) X.A) (hg : Gl X x) (hm : X.mg x = some (.ref C)) (hb : Binds X.K fd ps []) (hx : ∀ σ, PassesAt CX X σ (E σ))
    (ha : PA X (e :: es) t) (hdb : (x == ("__debug__" : Str)) = false := by decide) (he : starEach (e :: es) X.env = (false, eval e X.env) :: starEach es X.env := by rfl) (hpl : (backTo pos (starEach es X.env)).any (·.1) = false := by rfl) :
    PE X (.Call (.Name x p) (e :: es) [] pos) (tMakeS C sp E t) := by
  refine ⟨fun pins s σ H Q I h => ?_⟩
  refine wpAny_Call_Name_kw (ld_glob I hg hm ?_ hdb)
  refine PySem.W.callWith_K (h₀ := X.base) I.ok.mod.kin M.kp (thn (ha.run pos pins s σ H _ I h) fun us s1 ⟨vs, H1, I1, r, q⟩ => ⟨I1.kIn, ?_⟩) he hpl
  exact run_makeS M F hr hb (hx σ) I1 r q
/-- a new instance among the changing things -/
theorem push_ins {K : PySem.W.Frag} {ρ : List Addr} {h : DHp} {H : Hp} {a dx : Addr} {c : String} (hr : HR K ρ h H) (na : H a = none) (nd : H dx = none) (hne : dx ≠ a) :
    HR K (ρ ++ [a]) (h ++ [.ins c []]) (upd (upd H dx (.own a)) a (.ins (He.ga K (Str.ofString c)) dx [])) ∧ Ext ρ H (ρ ++ [a]) (upd (upd H dx (.own a)) a (.ins (He.ga K (Str.ofString c)) dx [])) ∧ (ρ ++ [a])[h.length]? = some a := by
  have na' : upd H dx (.own a) a = none := by rw [upd_ne (Ne.symm hne)]; exact na
  have e1 : Ext ρ H ρ (upd H dx (.own a)) := .new1 nd
  refine ⟨(hr.new1 nd).push na' ⟨dx, [], upd_same, rfl⟩, e1.trans (.push na'), ?_⟩
  rw [← hr.len, List.getElem?_append_right (Nat.le_refl _), Nat.sub_self]; rfl
theorem mk_end {K : PySem.W.Frag} {ρ0 ρ : List Addr} {h0 : DHp} {H0 H : Hp} {a : Addr} {c : String} {fs : List (Str × D)} {g : DHp} (hr0 : HR K ρ0 h0 H0) (e : Ext ρ0 H0 ρ H) (hr : HR K ρ (h0 ++ .ins c fs :: g) H) (ha : ρ[h0.length]? = some a) (hb : BdF h0.length fs) :
    Ext ρ0 H0 ρ0 H ∧ HR K ρ0 h0 H ∧ DV K ρ0 H (.obj c fs) (.ref a) := by
  obtain ⟨t, rfl⟩ := e.pre
  obtain ⟨dx, ws, hH, dfs⟩ := hr.at_ h0.length (.ins c fs) a (by rw [List.getElem?_append_right (Nat.le_refl _), Nat.sub_self]; rfl) ha
  refine ⟨e.cut, hr.cut hr0.len hr0.bd, a, dx, ws, rfl, fun z => ?_, hH, DFs.cut _ _ (by rw [hr0.len]; exact hb) dfs⟩
  have nd := (List.nodup_append.mp hr.nd).2.2
  rw [← hr0.len, List.getElem?_append_right (Nat.le_refl _)] at ha
  exact nd a z a (List.mem_of_getElem? ha) rfl
theorem mk_go {K : PySem.W.Frag} {σ : St} {H : Hp} {Q : VK} (w : lE K W (dMake c ci n ts) σ H Q) : tMakeS (He.ga K (Str.ofString c)) (spOf K n ci) (WE W) (lA K W ts) σ H Q := by
  obtain ⟨ρ, σd, h, Xd, Qd, hr, sr, w, kx, k⟩ := w
  refine lA.go hr sr w kx fun ρ1 ds h1 vs H1 e1 hr1 sr1 kx1 dvs q => fun a dx na nd hne => ?_
  obtain ⟨p1, p2, p3⟩ := push_ins (c := c) hr1 na nd hne
  refine ⟨ρ1 ++ [a], .ref h1.length :: ds, h1 ++ [.ins c []], _, _, by rw [List.length_cons]; exact q.1, p1, ⟨_, _, rfl, ⟨a, rfl, p3⟩, DVs.ext p2 _ _ dvs⟩, q.2, ?_, ?_⟩
  · intro ρ' x h' cls d H' e' hr' ea z
    obtain ⟨g, rfl, b, z⟩ := z
    have e2 := p2.trans e'
    obtain ⟨t, rfl⟩ := e2.pre
    exact kx1 ρ1 x h1 cls d H' e2.cut (hr'.cut hr1.len hr1.bd) (sr1.ext e2.cut) (exc_cut (by rw [hr1.len]; exact b) ea) z
  · intro ρ' d h' v H' e' hr' dv z
    obtain ⟨rfl, fs, g, rfl, b, z⟩ := z
    have e2 := p2.trans e'
    obtain ⟨a1, a2, a3⟩ := mk_end hr1 e2 hr' (e'.get p3) b
    exact ⟨dv, k ρ1 _ h1 _ H' (e1.trans a1) a2 a3 z⟩
theorem se_make (M : MkC X.prog X.w X.K X.mg X.base k c n ci) (tk : L2N.Takes X W) (hr : Room (k + 1) X.A) (ha : SA X W (e :: es) ts) (hg : Gl X (Str.ofString c) := by rfl) (hdb : ((Str.ofString c) == ("__debug__" : Str)) = false := by decide)
    (he : starEach (e :: es) X.env = (false, eval e X.env) :: starEach es X.env := by rfl) (hpl : (backTo pos (starEach es X.env)).any (·.1) = false := by rfl) : SE X W (.Call (.Name (Str.ofString c) p) (e :: es) [] pos) (dMake c ci n ts) := by
  obtain ⟨f, fd, ps, hps, M1, F, hm, hb⟩ := M.ex
  exact PE.imp (pe_makeS M1 F hr hg hm hb (fun σ => L2N.passAt tk σ) ha hdb he hpl) fun σ H Q w => mk_go w

/-! ### keywords -/
theorem sk_nil : PK X [] (lA X.K W aNil) := by
  refine ⟨fun _ pins s σ H Q I h => ?_⟩
  obtain ⟨ρ, σd, hh, Xd, Qd, hr, sr, w, kx, k⟩ := h
  exact wpAny_evalAll_nil ⟨[], H, I, .nil, k ρ [] hh [] H .refl hr rfl w⟩
abbrev SK (X : Cx) (W : WX) (kws : List Keyword) (t : DA) : Prop := PK X kws (lA X.K W t)
theorem PK.imp {kws : List Keyword} {t t' : TA} (h : PK X kws t) (i : ∀ σ H Q, t' σ H Q → t σ H Q) : PK X kws t' := ⟨fun pos pins s σ H Q I w => h.run pos pins s σ H Q I (i σ H Q w)⟩
theorem sk_cons {nm : Option Str} {kpos : Pos} {kws : List Keyword} {da : DE} (ha : SE X W e da) (hs : SK X W kws ts) : SK X W (⟨nm, e, kpos⟩ :: kws) (aCons da ts) := PK.imp (pk_cons ha hs) fun σ H Q w => by
  obtain ⟨ρ, σd, h, Xd, Qd, hr, sr, w, kx, k⟩ := w
  refine lE.go hr sr w kx fun ρ1 d1 h1 v1 H1 e1 hr1 sr1 kx1 dv1 w1 => lA.go hr1 sr1 w1 kx1 fun ρ2 ds h2 vs H2 e2 hr2 sr2 kx2 dvs w2 => ?_
  exact k ρ2 (d1 :: ds) h2 _ H2 (e1.trans e2) hr2 ⟨v1, vs, rfl, dv1.ext e2, dvs⟩ w2
/-- the keywords' values in the parameters' order -/
def perm {α : Type} (q : List Nat) (l : List α) : List α := q.filterMap fun i => l[i]?
structure FnK (P : Program) (w : World) (K : PySem.W.Frag) (mg : Str → Option Value) (base : Heap) (k : Nat) (x : Str) (n : Nat) (ks : List Str) (q : List Nat) (c : Ct) : Prop where
  ex : ∃ f fd ps, ps.length = n ∧ FnOk P w K mg base (L2N.CX P w) k f fd ps (spOf K n c) ∧ mg x = some (.ref f) ∧ PySem.W.keepIn K (.ref f) = true ∧
    ∀ (s : Shared) (ws : List Value), K.In s.heap → ws.length = ks.length → BindsTo s fd ⟨[], ks.zip ws⟩ (ps.zip (perm q ws))
def dCallK (c : Ct) (n m : Nat) (q : List Nat) (ts : DA) : DE := fun σ h X Q => ts σ h X fun ds h1 => ds.length = m ∧ (perm q ds).length = n ∧ c (perm q ds) h1 X Q
theorem DVs.perm {K : PySem.W.Frag} {ρ : List Addr} {H : Hp} {ds : List D} {vs : List V} (d : DVs K ρ H ds vs) : ∀ q : List Nat, DVs K ρ H (MW.perm q ds) (MW.perm q vs)
  | [] => rfl
  | i :: q => by
    have ih := DVs.perm d q
    unfold MW.perm at ih ⊢
    rw [List.filterMap_cons, List.filterMap_cons]
    cases h : ds[i]? with
    | none =>
      have hv : vs[i]? = none := List.getElem?_eq_none (by rw [d.length]; exact List.getElem?_eq_none_iff.mp h)
      rw [hv]; exact ih
    | some y =>
      obtain ⟨v, hv, dv⟩ := d.get h
      rw [hv]; exact ⟨v, _, rfl, dv, ih⟩
theorem Vals.perm {vs : List V} {us : List Value} (r : Vals vs us) : ∀ q : List Nat, Vals (MW.perm q vs) (MW.perm q us)
  | [] => .nil
  | i :: q => by
    have ih := Vals.perm r q
    unfold MW.perm at ih ⊢
    rw [List.filterMap_cons, List.filterMap_cons]
    cases h : vs[i]? with
    | none =>
      have hv : us[i]? = none := r.none_of h
      rw [hv]; exact ih
    | some y =>
      obtain ⟨v, hv, dv⟩ := r.get h
      rw [hv]; exact .cons dv ih
theorem se_callK {kws : List Keyword} {ks : List Str} {q : List Nat} {cc : Ct} (F : FnK X.prog X.w X.K X.mg X.base k x n ks q cc) (tk : L2N.Takes X W) (hr : Room k X.A) (hkw : SK X W kws ts) (hg : Gl X x := by rfl) (hall : (backToKw pos (keywordEach kws X.env)).all (·.1.isSome) = true := by rfl)
    (hks : (backToKw pos (keywordEach kws X.env)).filterMap (·.1) = ks := by rfl) (hdb : (x == ("__debug__" : Str)) = false := by decide)
    (hpl : ((backTo pos (starEach [] X.env)).any (·.1) || (backToKw pos (keywordEach kws X.env)).any (·.1.isNone)) = false := by rfl) : SE X W (.Call (.Name x p) [] kws pos) (dCallK cc n ks.length q ts) := by
  obtain ⟨f, fd, ps, hps, F, hm, hk, hb⟩ := F.ex
  refine ⟨fun pins s σ H Q I h => ?_⟩
  refine wpAny_Call_Name_kw (ld_glob I hg hm ?_ hdb)
  refine PySem.W.callWith_KW0 (h₀ := X.base) I.ok.mod.kin hk hall ?_ hpl
  obtain ⟨ρ, σd, hh, Xd, Qd, hR, sr, w, kx, kk⟩ := h
  refine thn (hkw.run pos pins s σ H (fun vs H1 => vs.length = ks.length ∧ spOf X.K n cc (MW.perm q vs) H1 Q (WE W σ)) I (lA.go hR sr w kx fun ρ1 ds h1 vs H1 e1 hr1 sr1 kx1 dvs z => ?_)) fun ws s2 ⟨zs, H2, I2, rz, l2, q2⟩ => ⟨I2.kIn, ?_⟩
  · exact ⟨by rw [dvs.length]; exact z.1, ρ1, MW.perm q ds, h1, Xd, Qd, z.2.1, hr1, dvs.perm q, z.2.2, fun ρ' x h' cls d H' e hr' ea z => kx1 ρ' x h' cls d H' e hr' (sr1.ext e) ea z, fun ρ' d h' v H' e => kk ρ' d h' v H' (e1.trans e)⟩
  · rw [hks]
    refine wpAny_call (codeAny_mono (F.run X.A X.stack s2 H2 ⟨[], ks.zip ws⟩ (MW.perm q ws) (MW.perm q zs) Q (WE W σ) hr I2.env0 (hb s2 ws I2.kIn (rz.length.symm.trans l2)) (Vals.perm rz q) q2) fun r s' hq => ?_)
    cases r with
    | error e => exact L2N.passAt tk σ pins H2 s2 e s' I2 hq
    | ok fl =>
      cases fl with
      | ret u => exact I2.after hq
      | next => exact False.elim hq
      | brk => exact False.elim hq
      | cont => exact False.elim hq
end

/-! ### sorted -/
section
variable {K : PySem.W.Frag}
def nSrtI : DN := fun ds h Q => ∃ d, ∃ ns : List Int, ds = [d] ∧ asL h d = some (ns.map D.int) ∧ ∀ ns' : List Int, ns'.Perm ns → ns'.Pairwise (· ≤ ·) → Q (.lst (ns'.map D.int)) h
theorem L_srtI : LNok K nSrtI (rSortedI K) := by
  intro ρ h H xs vs Qd Q hr dvs w k
  obtain ⟨d, ns, rfl, e, q⟩ := w
  obtain ⟨v, rfl, dv⟩ := dvs.un
  obtain ⟨a, vs, rfl, hq, ds⟩ := asL_at hr dv e
  rw [ds.ints] at hq
  exact ⟨a, ns, rfl, hq, fun ns' p h1 h2 np => k ρ _ h _ _ (.new1 np) (hr.new1 np) (.lstNew hr np DVs.of_ints) (q ns' h1 h2)⟩
def prD (p : Int × Int) : D := .tup [.int p.1, .int p.2]
/-- by the first, then by the second -/
def prLe (p q : Int × Int) : Prop := p.1 < q.1 ∨ (p.1 = q.1 ∧ p.2 ≤ q.2)
def nSrtP : DN := fun ds h Q => ∃ d, ∃ ps : List (Int × Int), ds = [d] ∧ asL h d = some (ps.map prD) ∧ ∀ ps' : List (Int × Int), ps'.Perm ps → ps'.Pairwise prLe → Q (.lst (ps'.map prD)) h
/-- the pair that stands at a value -/
def kP (H : Hp) : V → Int × Int
  | .ref t => (match H t with
    | some (.tup [.int i, .int j]) => (i, j)
    | _ => (0, 0))
  | _ => (0, 0)
theorem prs_at {ρ : List Addr} {H : Hp} : ∀ {ps : List (Int × Int)} {vs : List V}, DVs K ρ H (ps.map prD) vs → vs.map (kP H) = ps ∧ (∀ x ∈ vs, ∃ t, x = V.ref t ∧ H t = some (.tup [.int (kP H x).1, .int (kP H x).2])) ∧ ∀ x ∈ vs, DV K ρ H (prD (kP H x)) x
  | [], _, h => by rw [show _ = [] from h]; exact ⟨rfl, (fun x hx => by cases hx), (fun x hx => by cases hx)⟩
  | p :: ps, _, ⟨v, r, e, h1, h2⟩ => by
    subst e
    obtain ⟨a1, a2, a3⟩ := prs_at h2
    have hv : ∃ t, v = V.ref t ∧ H t = some (.tup [.int p.1, .int p.2]) := by
      obtain ⟨t, ws, rfl, ⟨_, ht⟩, u1, r1, rfl, d1, u2, r2, rfl, d2, rfl⟩ := h1
      have e1 : u1 = .int p.1 := d1
      have e2 : u2 = .int p.2 := d2
      subst e1 e2
      exact ⟨t, rfl, ht⟩
    obtain ⟨t, rfl, ht⟩ := hv
    have hk : kP H (.ref t) = p := by show (match H t with | some (.tup [.int i, .int j]) => (i, j) | _ => (0, 0)) = p; rw [ht]
    refine ⟨by rw [List.map_cons, hk, a1], fun x hx => ?_, fun x hx => ?_⟩
    · rcases List.mem_cons.mp hx with e | hx
      · subst e; exact ⟨t, rfl, by rw [hk]; exact ht⟩
      · exact a2 x hx
    · rcases List.mem_cons.mp hx with e | hx
      · subst e; rw [hk]; exact h1
      · exact a3 x hx
theorem DVs.of_all {ρ : List Addr} {H : Hp} {f : V → D} : ∀ {vs : List V}, (∀ x ∈ vs, DV K ρ H (f x) x) → DVs K ρ H (vs.map f) vs
  | [], _ => rfl
  | v :: vs, h => ⟨v, vs, rfl, h v List.mem_cons_self, DVs.of_all fun x hx => h x (List.mem_cons_of_mem _ hx)⟩
theorem L_srtP : LNok K nSrtP (rSortedPO K) := by
  intro ρ h H xs vs Qd Q hr dvs w k
  obtain ⟨d, ps, rfl, e, q⟩ := w
  obtain ⟨v, rfl, dv⟩ := dvs.un
  obtain ⟨a, vs, rfl, hq, ds⟩ := asL_at hr dv e
  obtain ⟨a1, a2, a3⟩ := prs_at ds
  refine ⟨a, vs, kP H, rfl, hq, a2, fun ys p hs hb np => ?_⟩
  have hm : ∀ x ∈ ys, x ∈ vs := fun x hx => hb.perm.mem_iff.mp hx
  have dy : DVs K ρ H ((ys.map (kP H)).map prD) ys := by
    rw [List.map_map]
    exact DVs.of_all (f := prD ∘ kP H) fun x hx => a3 x (hm x hx)
  have q' := q (ys.map (kP H)) (by rw [← a1]; exact hb.perm.map _) (by
    rw [List.pairwise_map]
    refine List.Pairwise.imp (fun {x y} hxy => ?_) hs
    have z := SrtO.lexB_no.mp hxy
    unfold prLe
    omega)
  exact k ρ _ h _ _ (.new1 np) (hr.new1 np) (.lstNew hr np dy) q'
end
section
variable {X : Cx} {W : WX} {pos p : Pos} {e : Expr} {es : List Expr} {ts : DA} {a b : Expr} {da db de : DE}
theorem se_sortI (hm : X.mg "sorted" = none) (ha : SA X W (e :: es) ts) (hg : Gl X "sorted" := by rfl) (he : starEach (e :: es) X.env = (false, eval e X.env) :: starEach es X.env := by rfl) (hpl : (backTo pos (starEach es X.env)).any (·.1) = false := by rfl) : SE X W (.Call (.Name "sorted" p) (e :: es) [] pos) (dCB nSrtI ts) := se_cb cr_sortedI L_srtI hg hm (by decide +kernel) ha (he := he) (hpl := hpl)
theorem se_sortP (hm : X.mg "sorted" = none) (ha : SA X W (e :: es) ts) (hg : Gl X "sorted" := by rfl) (he : starEach (e :: es) X.env = (false, eval e X.env) :: starEach es X.env := by rfl) (hpl : (backTo pos (starEach es X.env)).any (·.1) = false := by rfl) : SE X W (.Call (.Name "sorted" p) (e :: es) [] pos) (dCB nSrtP ts) := se_cb cr_sortedPO L_srtP hg hm (by decide +kernel) ha (he := he) (hpl := hpl)
/-! ### x in a list of data; a changed list by + -/
def dIn (neg : Bool) : D2 := fun x y h Q => ∃ l, rz h y = .lst l ∧ OkD 60 x ∧ OkD 60 (.lst l) ∧ Q (.bl (if neg then !(l.any fun z => deq z x) else l.any fun z => deq z x)) h
theorem toPs_any {l : List D} {x : D} : (toPs l).any (fun z => PyData.eqv z (toP x)) = l.any fun z => deq z x := by
  rw [toPs_map, List.any_map]; rfl
theorem rz_same {h : DHp} {x : D} (o : OkD 60 x) : rz h x = x := by
  cases x with
  | ref i => exact o.elim
  | _ => rfl
theorem in_at {K : PySem.W.Frag} {ρ : List Addr} {h : DHp} {H : Hp} {x y : D} {vx vy : V} {l : List D} (hr : HR K ρ h H) (dx : DV K ρ H x vx) (dy : DV K ρ H y vy) (e : rz h y = .lst l) (o1 : OkD 60 x) (o2 : OkD 60 (.lst l)) :
    Dp K H vx (toP x) ∧ Dp K H vy (.list (toPs l)) ∧ SeqAt.shaped (toP x) = true ∧ SeqAt.shaped (.list (toPs l)) = true := by
  obtain ⟨a1, a2⟩ := rz_dp hr dx (by rw [rz_same o1]; exact o1)
  rw [rz_same o1] at a1 a2
  obtain ⟨b1, b2⟩ := rz_dp hr dy (by rw [e]; exact o2)
  rw [e] at b1 b2
  exact ⟨a1, b1, a2, b2⟩
theorem L_in {K : PySem.W.Frag} : L2ok K (dIn false) (rInD K) := by
  intro ρ h H x y vx vy Qd Q hr dx dy w k
  obtain ⟨l, e, o1, o2, q⟩ := w
  obtain ⟨a1, b1, a2, b2⟩ := in_at hr dx dy e o1 o2
  refine ⟨_, _, a1, b1, a2, b2, ?_⟩
  rw [toPs_any]
  exact k ρ (.bl _) h _ H .refl hr rfl q
theorem L_notIn {K : PySem.W.Frag} : L2ok K (dIn true) (rNotInD K) := by
  intro ρ h H x y vx vy Qd Q hr dx dy w k
  obtain ⟨l, e, o1, o2, q⟩ := w
  obtain ⟨a1, b1, a2, b2⟩ := in_at hr dx dy e o1 o2
  refine ⟨_, _, a1, b1, a2, b2, ?_⟩
  rw [toPs_any]
  exact k ρ (.bl _) h _ H .refl hr rfl q
/-- x in a tuple of flat things -/
def flatD : D → Bool
  | .non => true
  | .bl _ => true
  | .int _ => true
  | .str _ => true
  | _ => false
def feq : D → D → Bool
  | .int i, .int j => i == j
  | _, _ => false
/-- an int in a tuple of ints -/
def dInT (neg : Bool) : D2 := fun x y h Q => ∃ i, ∃ ns : List Int, x = .int i ∧ y = .tup (ns.map D.int) ∧ Q (.bl (if neg then !(ns.any fun z => z == i) else ns.any fun z => z == i)) h
theorem inV_ints (i : Int) : ∀ ns : List Int, inV (.int i) (ns.map V.int) = ns.any fun z => z == i
  | [] => rfl
  | n :: ns => by
    unfold inV
    rw [List.map_cons, List.any_cons, List.any_cons]
    have := inV_ints i ns
    unfold inV at this
    rw [this]
    have : eqV (.int n) (.int i) = (n == i) := by simp [eqV, Bool.eq_iff_iff]
    rw [this]
theorem flat_ints : ∀ ns : List Int, (ns.map V.int).all flatV = true
  | [] => rfl
  | n :: ns => by rw [List.map_cons, List.all_cons, flat_ints ns]; rfl
theorem L_inT {K : PySem.W.Frag} {neg : Bool} : L2ok K (dInT neg) (rIn K neg) := by
  intro ρ h H x y vx vy Qd Q hr dx dy w k
  obtain ⟨i, ns, rfl, rfl, q⟩ := w
  obtain ⟨a, vs, rfl, h1, d1⟩ := dy
  have ev : vx = .int i := dx
  subst ev
  have e2 := d1.ints
  subst e2
  refine ⟨a, _, rfl, .inr h1.sq, rfl, flat_ints ns, ?_⟩
  rw [inV_ints]
  exact k ρ (.bl _) h _ H .refl hr rfl q
theorem se_in (hu : X.A.units + 65 < cLine) (ha : SE X W a da) (hb : SE X W b db) (hm : behindInMarks .In b = false := by rfl) : SE X W (.Compare a [.In] [b] pos) (dOp (dIn false) da db) := se_cmp (op_inD hu) L_in ha hb hm
theorem st_in (hu : X.A.units + 65 < cLine) (ha : SE X W a da) (hb : SE X W b db) (hm : behindInMarks .In b = false := by rfl) : ST X W (.Compare a [.In] [b] pos) (dTst (dOp (dIn false) da db)) := st_cmp (op_inD hu) L_in ha hb hm
theorem se_notIn (hu : X.A.units + 65 < cLine) (ha : SE X W a da) (hb : SE X W b db) (hm : behindInMarks .NotIn b = false := by rfl) : SE X W (.Compare a [.NotIn] [b] pos) (dOp (dIn true) da db) := se_cmp (op_notInD hu) L_notIn ha hb hm
theorem st_notIn (hu : X.A.units + 65 < cLine) (ha : SE X W a da) (hb : SE X W b db) (hm : behindInMarks .NotIn b = false := by rfl) : ST X W (.Compare a [.NotIn] [b] pos) (dTst (dOp (dIn true) da db)) := st_cmp (op_notInD hu) L_notIn ha hb hm
theorem st_inT (ha : SE X W a da) (hb : SE X W b db) (hm : behindInMarks .In b = false := by rfl) : ST X W (.Compare a [.In] [b] pos) (dTst (dOp (dInT false) da db)) := st_cmp op_in_seq L_inT ha hb hm
theorem st_notInT (ha : SE X W a da) (hb : SE X W b db) (hm : behindInMarks .NotIn b = false := by rfl) : ST X W (.Compare a [.NotIn] [b] pos) (dTst (dOp (dInT true) da db)) := st_cmp op_notIn_seq L_inT ha hb hm
/-- a list + a list, to be changed; a list times a number, to be changed -/
def dAddH : D2 := fun x y h Q => ∃ l m, asX h x = some l ∧ asX h y = some m ∧ l.length + m.length ≤ sizeLine ∧ Q (.ref h.length) (h ++ [.lst (l ++ m)])
theorem L_addH {K : PySem.W.Frag} : L2ok K dAddH rCat := by
  intro ρ h H x y vx vy Qd Q hr dx dy w k
  obtain ⟨l, m, e1, e2, hz, q⟩ := w
  obtain ⟨p, vs, rfl, h1, d1⟩ := asX_at hr dx e1
  obtain ⟨p', vs', rfl, h2, d2⟩ := asX_at hr dy e2
  refine ⟨p, p', vs, vs', rfl, rfl, h1, h2, by rw [d1.length, d2.length]; exact hz, fun n np => ?_⟩
  obtain ⟨a1, a2⟩ := push_lst hr np (d1.append d2)
  exact k _ _ _ _ _ (.push np) a1 a2 q
theorem se_addH (ha : SE X W a da) (hb : SE X W b db) : SE X W (.BinOp a .Add b pos) (dOp dAddH da db) := se_op op_cat L_addH ha hb
def dMulH : D2 := fun x y h Q => ∃ l j, asX h x = some l ∧ y = .int j ∧ -(2 ^ 63) ≤ j ∧ j < 2 ^ 63 ∧ l.length * j.toNat ≤ sizeLine ∧ Q (.ref h.length) (h ++ [.lst (List.replicate j.toNat l).flatten])
theorem L_mulH {K : PySem.W.Frag} : L2ok K dMulH rRep := by
  intro ρ h H x y vx vy Qd Q hr dx dy w k
  obtain ⟨l, j, e1, rfl, b1, b2, hz, q⟩ := w
  obtain ⟨p, vs, rfl, h1, d1⟩ := asX_at hr dx e1
  have ey : vy = .int j := dy
  subst ey
  refine ⟨p, j, vs, rfl, rfl, h1, b1, b2, by rw [d1.length]; exact hz, fun n np => ?_⟩
  obtain ⟨a1, a2⟩ := push_lst hr np (d1.rep j.toNat)
  exact k _ _ _ _ _ (.push np) a1 a2 q
theorem se_mulH (ha : SE X W a da) (hb : SE X W b db) : SE X W (.BinOp a .Mult b pos) (dOp dMulH da db) := se_op op_rep L_mulH ha hb
/-! ### reversed -/
theorem it_rev {K : PySem.W.Frag} {ρ0 : List Addr} {H0 : Hp} {a : Addr} {l : List D} {vs0 : List V} {G : DHp → Prop} (hl0 : vs0.length = l.length) (hq : ∀ ρ h H, Ext ρ0 H0 ρ H → HR K ρ h H → G h → ∃ vs, SqL K H a vs ∧ DVs K ρ H l vs) : ItAt K ρ0 H0 l.reverse G (Itv K a vs0.length) := by
  intro ρ h H i e hr g
  obtain ⟨vs, q, dvs⟩ := hq ρ h H e hr g
  have hl := dvs.length
  refine ⟨fun d hd => ?_, fun hle => ?_⟩
  · have hi : i < l.length := by have := (List.getElem?_eq_some_iff.mp hd).1; rwa [List.length_reverse] at this
    rw [List.getElem?_reverse hi] at hd
    obtain ⟨v, hv, dv⟩ := dvs.get hd
    refine ⟨⟨by omega, vs, v, q, by rw [hl0]; exact hv⟩, fun u H' y => ?_⟩
    obtain ⟨rfl, y⟩ := y
    have z := y vs q
    rw [hl0, hv] at z; cases z
    exact ⟨.refl, hr, dv⟩
  · rw [List.length_reverse] at hle
    show vs0.length ≤ i
    omega
theorem si_rev (hm : X.mg "reversed" = none) (ha : SA X W [e] ts) {tg : Expr} (hg : Gl X "reversed" := by rfl) (hs : starEach [e] X.env = [(false, eval e X.env)] := by rfl) : SI X W tg (.Call (.Name "reversed" p) [e] [] pos) (fun σ h X Q => ts σ h X fun ds h1 => ∃ d l, ds = [d] ∧ asL h1 d = some l ∧ Q l.reverse (gdL d l) h1) :=
  PI.imp (pi_reversed hg hm ha hs) fun σ H R w => by
    obtain ⟨ρ, σd, h, Xd, Qd, hr, sr, w, kx, k⟩ := w
    refine ⟨ρ, σd, h, Xd, _, hr, sr, w, kx, fun ρ1 ds h1 vs H1 e1 hr1 dvs q => ?_⟩
    obtain ⟨d, l, rfl, el, q⟩ := q
    obtain ⟨v, rfl, dv⟩ := dvs.un
    obtain ⟨a, ws, rfl, hq, dl⟩ := asL_at hr1 dv el
    refine ⟨a, ws, rfl, hq, k ρ1 _ _ h1 _ H1 e1 hr1 (it_rev dl.length fun ρ2 h2 H2 e2 hr2 g2 => ?_) q⟩
    obtain ⟨a', vs', e', hq', dvs'⟩ := asL_at hr2 (dv.ext e2) g2
    cases e'
    exact ⟨vs', hq', dvs'⟩
/-! ### xs[i] op= e -/
theorem get_list : PGet X (rIxL X.K) := by
  intro pins s σ H o i ov iv Q I r1 r2 h
  obtain ⟨p, xs, k, v, rfl, rfl, hq, hv, q⟩ := h
  cases r1
  obtain ⟨t, rfl⟩ := r2
  obtain ⟨its, r, pl, hz⟩ := I.list hq
  obtain ⟨j, hj, hx, _, hlo, hhi⟩ := atI_get hv
  obtain ⟨u, hu, ru⟩ := r.get hx
  have hl := r.length
  have hn := line63
  have fin : EP X pins σ Q u s := ⟨v, H, I, ru, q⟩
  by_cases h0 : 0 ≤ k
  · have hk : k.toNat = j := by
      rw [seqIndex_of h0 hhi] at hj
      exact Option.some.inj hj
    exact wpAny_getItem_list pl.isList h0 (by omega) (by rw [hk]; simpa using hu) fin
  · have hk : (k + (its.toArray.size : Int)).toNat = j := by
      rw [seqIndex_neg (by omega) hlo] at hj
      rw [List.size_toArray, ← hl]
      exact Option.some.inj hj
    exact wpAny_getItem_list_neg pl.isList (by omega) (by rw [List.size_toArray]; omega) (by omega) (by rw [hk]; simpa using hu) fin
def sAugS (op : D2) (dd di de : DE) : DS := fun E σ h => dd σ h (E.xx σ) fun x h1 => di σ h1 (E.xx σ) fun y h2 => ∃ j l k n c, x = .ref j ∧ y = .int k ∧ h2[j]? = some (.lst l) ∧ ixN l.length k = some n ∧ l[n]? = some c ∧ de σ h2 (E.xx σ) fun d h3 => op c d h3 fun z h4 => ∃ l', h4[j]? = some (.lst l') ∧ ixN l'.length k = some n ∧ E.nx σ (h4.set j (.lst (l'.set n z)))
end
end L2.MW

/-! MW, part R: tuple(reversed(a tuple)), at the library's level. -/
namespace L2.MW
open PySem PySem.Spec PyProof.Rows RT
theorem rt_nolen : typeLookup (.type "reversed") "__len__" = pure none := by
  rw [typeLookup_type, builtinLookup_eq_fast]
  kernel_rfl
theorem rt_hint : typeLookup (.type "reversed") "__length_hint__" = pure (some (.builtin "reversed.__length_hint__")) := by
  rw [typeLookup_type, builtinLookup_eq_fast]
  kernel_rfl
theorem rt_walk {P : Program} {w : World} {A : Around} (ah : A.handled = none) (z t : Addr) (ht0 : t ≠ z) (xs : Array Value) (hz : xs.size ≤ sizeLine) :
    Walks P w A z [z, t] [z] xs.size (fun j v => xs[xs.size - 1 - j]? = some v) (fun j g => j ≤ xs.size ∧ IsRt g z t ((xs.size : Int) - 1 - (j : Int)) ∧ IsTup g t xs) where
  sub := fun b hb => by
    have : b = z := by simpa using hb
    rw [this]; exact List.mem_cons_self
  frame := fun _ g g' q hk => ⟨q.1, q.2.1.at fun o e => hk z List.mem_cons_self o e, by
    obtain ⟨o, ho, r⟩ := q.2.2
    exact ⟨o, hk t (List.mem_cons_of_mem _ List.mem_cons_self) o ho, r⟩⟩
  item := fun j s Q E hj q hQ => by
    have e1 : (xs.size : Int) - 1 - (j : Int) = ((xs.size - 1 - j : Nat) : Int) := by omega
    have q1 := q.2.1
    rw [e1] at q1
    have hx : xs[xs.size - 1 - j]? = some (xs[xs.size - 1 - j]'(by omega)) := Array.getElem?_eq_getElem (by omega)
    refine next_rt_item q1 q.2.2 hx hz fun g' r' sb => ?_
    have e2 : ((xs.size - 1 - j : Nat) : Int) - 1 = (xs.size : Int) - 1 - ((j + 1 : Nat) : Int) := by omega
    rw [e2] at r'
    refine hQ _ g' (s.toks + 1) hx ⟨hj, r', ?_⟩ fun b o hb eo => sb.extBut b o (fun y => hb (by rw [y]; exact List.mem_cons_self)) eo
    obtain ⟨o, ho, r⟩ := q.2.2
    exact ⟨o, (sb.2 t ht0).trans ho, r⟩
  done := fun s Q E q hQ => by
    have e1 : (xs.size : Int) - 1 - (xs.size : Int) = -1 := by omega
    have q1 := q.2.1
    rw [e1] at q1
    exact next_rt_end ah q1 fun g' he => hQ g' s.toks fun b o hb eo => he b o (fun y => hb (by rw [y]; exact List.mem_cons_self)) eo
  self := fun _ _ _ _ q hQ => iter_rt q.2.1 hQ
section
variable {P : Program} {w : World} {A : Around} {E : Value → Shared → Prop} {s : Shared}
abbrev el : Obj := { cls := .type "list", data := .seq ([] : List Value).toArray }
theorem rt_slotH : Slot "reversed" "__length_hint__" "reversed.__length_hint__" :=
  .of (owner := "reversed") (n := "__length_hint__")
    (by rw [typeLookup_type, builtinLookup_eq_fast]; kernel_rfl)
    (by decide +kernel) (by decide +kernel) (by decide +kernel)
    (by first | exact .inl (by decide +kernel) | exact .inr (by decide +kernel))
    (by rw [isSubtype_type]; kernel_rfl)
theorem rt_entryH : entryFor table "reversed.__length_hint__" = some Builtin.«reversed.__length_hint__» := entryFor_of_tree (by kernel_rfl)
theorem rt_argsH (a : Value) : argsOk "reversed.__length_hint__" ⟨[a], []⟩ := by
  unfold argsOk
  rw [signature?_of (id := "reversed.__length_hint__") (n := "__length_hint__".toList.reverse) (o := "reversed".toList.reverse) (by kernel_rfl) owner_rt]
  kernel_rfl
/-- the hint -/
theorem rt_hintCall {z t : Addr} {xs : Array Value} {Q : Value → Shared → Prop} (hz : IsRt s.heap z t ((xs.size : Int) - 1)) (ht : IsTup s.heap t xs) (hn : xs.size ≤ sizeLine)
    (hQ : ∀ k, Q (.int xs.size k) { s with toks := k + 1 }) : wpAny (model P w) A (call (.builtin "reversed.__length_hint__") [.ref z]) Q E s := by
  obtain ⟨o, ho, hc, hd⟩ := id hz
  have l63 := line63
  refine wpAny_call_entry rt_slotH hz.typeIs rt_entryH ?_ (rt_argsH _)
  unfold Builtin.«reversed.__length_hint__»
  refine wpAny_bind (wpAny_of_eq (a := Value.ref z) rfl ?_)
  try dsimp only
  refine wpAny_bind (wpAny_field ho hd (x := .ref t) rfl ?_)
  try dsimp only
  rw [if_neg (Bool.eq_false_iff.mp (show (Value.ref t == Value.none) = false from rfl))]
  try dsimp only
  refine wpAny_bind (len_tuple ht (by omega) ?_)
  refine wpAny_bind (wpAny_of_eq (a := some ((xs.size : Nat) : Int)) rfl ?_)
  try dsimp only
  refine wpAny_bind (wpAny_field (s := { s with toks := s.toks + 1 + 1 }) ho hd (x := rawInt ((xs.size : Int) - 1)) rfl ?_)
  show wpAny _ _ (if (xs.size : Int) < (xs.size : Int) - 1 + 1 then _ else _) _ _ _
  rw [if_neg (by omega)]
  show wpAny _ _ (mkInt ((xs.size : Int) - 1 + 1) >>= fun v => ret v) _ _ _
  have e1 : (xs.size : Int) - 1 + 1 = xs.size := by omega
  rw [e1]
  refine wpAny_bind (wpAny_mkInt ?_)
  exact wpAny_pure ⟨_, rfl, hQ _⟩
/-- the loop of list.extend over it -/
theorem rt_loop {z t S : Addr} {xs : Array Value} {g : Heap} {k c0 : Nat} {Q : Value → Shared → Prop} (ah : A.handled = none) (hz : IsRt g z t ((xs.size : Int) - 1)) (ht : IsTup g t xs) (ht0 : t ≠ z) (hn : xs.size ≤ sizeLine) (n3 : S ∉ [z, t])
    (gS : g.get? S = some { cls := .type "list", data := .seq ([] : List Value).toArray c0 })
    (hQ : ∀ (g' : Heap) (k' : Nat) (acc : Array Value) (c : Nat), (∀ b o, b ≠ z → b ≠ S → g.get? b = some o → g'.get? b = some o) → g'.get? S = some { cls := .type "list", data := .seq acc c } → ItemsOf (fun j v => xs[xs.size - 1 - j]? = some v) acc xs.size → Q (.ref S) { s with heap := g', toks := k' }) :
    codeAny (model P w) A (.builtin "list.extend.loop" ⟨[.ref S, .ref z, .ref S], []⟩) (wants Q E) { s with heap := g, toks := k } := by
  have Wk := (rt_walk (P := P) (w := w) (A := A.in1) ah z t ht0 xs hn).toS
  have e0 : ((xs.size : Nat) : Int) - 1 - ((0 : Nat) : Int) = (xs.size : Int) - 1 := by omega
  refine codeAny_extend_loopS Wk hn S n3 (.ref S) xs.size 0 _ #[] c0 rfl (Nat.zero_le _) ⟨Nat.zero_le _, by rw [e0]; exact hz, ht⟩ gS (ItemsOf.nil _) fun s' acc' c' hm hS' hacc => ?_
  have hh := hm.heap
  rw [Moved.eq_with hm]
  exact hQ s'.heap s'.toks acc' c' (fun b o hb hb2 e => hh b o (fun y => by
    rcases List.mem_cons.mp y with y | y
    · exact hb2 y
    · exact hb (List.mem_singleton.mp y)) e) hS' hacc
theorem rt_collect {z t : Addr} {xs : Array Value} {Q : List Value → Shared → Prop} (ah : A.handled = none) (hz : IsRt s.heap z t ((xs.size : Int) - 1)) (ht : IsTup s.heap t xs) (ht0 : t ≠ z) (hn : xs.size ≤ sizeLine)
    (hQ : ∀ (g : Heap) (k : Nat) (acc : Array Value), (∀ b o, b ≠ z → s.heap.get? b = some o → g.get? b = some o) → ItemsOf (fun j v => xs[xs.size - 1 - j]? = some v) acc xs.size → Q acc.toList { s with heap := g, toks := k }) :
    wpAny (model P w) A (collect (.ref z)) Q E s := by
  obtain ⟨oz, hoz, _⟩ := id hz
  obtain ⟨ot, hot, _⟩ := id ht
  have n1 : s.heap.objs.size ≠ z := Nat.ne_of_gt (Heap.lt_size hoz)
  have n2 : s.heap.objs.size ≠ t := Nat.ne_of_gt (Heap.lt_size hot)
  have n3 : s.heap.objs.size ∉ [z, t] := by
    simp only [List.mem_cons, List.not_mem_nil, or_false, not_or]
    exact ⟨n1, n2⟩
  have l63 := line63
  unfold collect
  refine wpAny_bind (wpAny_runValue (codeAny_builtin F.entry_proto_collect ?_))
  rw [Around.under_plainId F.plain_proto_collect _]
  show wpAny _ A.in1 (newList [] >>= fun q => again (.builtin "list.__iadd__" ⟨[q, .ref z], []⟩)) _ _ s
  refine wpAny_bind (wpAny_newObj_type ?_)
  refine wpAny_pure ⟨plainId_quiet F.plain_list_iadd _, codeAny_builtin F.entry_list_iadd ?_⟩
  rw [Around.under_plainId F.plain_list_iadd _]
  have g0 : (s.heap.push el).get? s.heap.objs.size = some el := Heap.get?_push_size _ rfl
  have g1 : IsRt (s.heap.push el) z t ((xs.size : Int) - 1) := hz.at fun o e => Heap.get?_push_of_some _ e
  have g2 : IsTup (s.heap.push el) t xs := by
    obtain ⟨o, ho, r⟩ := ht
    exact ⟨o, Heap.get?_push_of_some _ ho, r⟩
  have gT : ({ s with heap := s.heap.push el } : Shared).TypeIs (.ref z) "reversed" := IsRt.typeIs (s := { s with heap := s.heap.push el }) g1
  have h1 : Builtin.List.listSameRef (.ref s.heap.objs.size) (.ref z) = false := by simp [Builtin.List.listSameRef, n1]
  show wpAny _ A.in1 (Builtin.List.listExtendWith (.ref s.heap.objs.size) (.ref z) (.ref s.heap.objs.size)) _ _ _
  unfold Builtin.List.listExtendWith
  refine wpAny_bind (wpAny_typeOf gT ?_)
  rw [if_neg (by rw [h1]; decide)]
  refine wpAny_bind (iter_rt (s := { s with heap := s.heap.push el }) g1 ?_)
  refine wpAny_bind (wpAny_holding ?_)
  unfold Builtin.List.listLengthHint
  refine wpAny_bind (wpAny_specialOf gT rt_nolen ?_)
  show wpAny _ A.in1 (specialOf (Value.ref z) (Str.ofString "__length_hint__") >>= _) _ _ _
  refine wpAny_bind (wpAny_specialOf gT rt_hint ?_)
  generalize hid : ("reversed.__length_hint__" : String) = id0
  wp_delta
  rw [show splitId id0 = some ("reversed", "__length_hint__") from by subst hid; decide +kernel]
  subst hid
  refine wpAny_bind (wpAny_isInstance (b := true) gT (by rw [isSubtype_type]; kernel_rfl) ?_)
  rw [if_neg (by decide)]
  try dsimp only
  rw [if_neg (Bool.eq_false_iff.mp (by kernel_rfl))]
  refine wpAny_bind (wpAny_rule ?_)
  rw [rt_slotH.bind]
  refine wpAny_bind (wpAny_pure ?_)
  refine wpAny_bind (wpAny_attempt ?_)
  refine rt_hintCall (s := { s with heap := s.heap.push el }) g1 g2 hn fun k => ?_
  show wpAny _ _ (asInt? (.int (xs.size : Int) k) >>= _) _ _ _
  refine wpAny_bind ?_
  have e3 : asInt? (.int (xs.size : Int) k) = pure (some (xs.size : Int)) := rfl
  rw [e3]
  refine wpAny_pure ?_
  try dsimp only
  have f1 : Builtin.List.listFitsIndex (xs.size : Int) = true := by
    unfold Builtin.List.listFitsIndex
    rw [Bool.and_eq_true, decide_eq_true_eq, decide_eq_true_eq]
    omega
  have f2 : Builtin.List.listTooLong (xs.size : Int).toNat = false := by
    unfold Builtin.List.listTooLong
    rw [decide_eq_false_iff_not]
    omega
  rw [if_neg (by rw [f1]; decide)]
  try dsimp only
  rw [if_neg (by omega)]
  try dsimp only
  rw [if_neg (by rw [f2]; decide)]
  refine wpAny_pure ?_
  have fin : ∀ (g : Heap) (k' c0 : Nat), IsRt g z t ((xs.size : Int) - 1) → IsTup g t xs → g.get? s.heap.objs.size = some { cls := .type "list", data := .seq ([] : List Value).toArray c0 } → (∀ b o, b ≠ s.heap.objs.size → s.heap.get? b = some o → g.get? b = some o) →
      codeAny (model P w) A (.builtin "list.extend.loop" ⟨[.ref s.heap.objs.size, .ref z, .ref s.heap.objs.size], []⟩) (wants (fun v s' => wpAny (model P w) A (match v with
        | .ref a => (do
          let o ← load a
          match o.data with
          | .seq xs _ => pure xs.toList
          | _ => unsupported "internal:collect")
        | _ => unsupported "internal:collect") Q E s') E) { s with heap := g, toks := k' } := by
    intro g k' c0 b1 b2 b3 b4
    refine rt_loop (s := s) ah b1 b2 ht0 hn n3 b3 fun g' k2 acc c b5 b6 b7 => ?_
    refine wpAny_bind (wpAny_load b6 ?_)
    refine wpAny_pure ?_
    refine hQ g' k2 acc (fun b o hb e => ?_) b7
    have hs : b ≠ s.heap.objs.size := fun y => absurd (Heap.lt_size e) (by rw [y]; exact Nat.lt_irrefl _)
    exact b5 b o hb hs (b4 b o hs e)
  split
  · refine wpAny_bind (wpAny_rule ?_)
    refine wpAny_bind ?_
    show wpAny _ A.in1 (updateSeq s.heap.objs.size (·.push .none) >>= fun _ => updateSeq s.heap.objs.size (·.pop)) _ _ _
    refine wpAny_bind (wpAny_updateSeq g0 rfl ?_ (Nat.zero_le _) (Nat.succ_le_succ (Nat.zero_le _)))
    have q2 := Heap.get?_update_self (Obj.mapSeq (·.push Value.none)) g0 rfl
    refine wpAny_updateSeq q2 rfl ?_ (show 1 ≤ sizeLine by decide) (Nat.zero_le _)
    have q3 := Heap.get?_update_self (Obj.mapSeq (·.pop)) q2 rfl
    have oth : ∀ b o, b ≠ s.heap.objs.size → (s.heap.push el).get? b = some o → (((s.heap.push el).update s.heap.objs.size (Obj.mapSeq (·.push Value.none))).update s.heap.objs.size (Obj.mapSeq (·.pop))).get? b = some o :=
      fun b o hb e => (Heap.get?_update_other _ _ (Ne.symm hb)).trans ((Heap.get?_update_other _ _ (Ne.symm hb)).trans e)
    refine wpAny_pure ⟨plainId_quiet F.plain_extend_loop _, ?_⟩
    refine fin _ _ _ (g1.at fun o e => oth z o (Ne.symm n1) e) ?_ q3 fun b o hb e => oth b o hb (Heap.get?_push_of_some _ e)
    obtain ⟨o, ho, r⟩ := g2
    exact ⟨o, oth t o (Ne.symm n2) ho, r⟩
  · refine wpAny_pure ⟨plainId_quiet F.plain_extend_loop _, ?_⟩
    exact fin _ _ _ g1 g2 g0 fun b o _ e => Heap.get?_push_of_some _ e
theorem rt_new {z t : Addr} {xs : Array Value} {Q₁ : Value → Shared → Prop} (ah : A.handled = none) (hz : IsRt s.heap z t ((xs.size : Int) - 1)) (ht : IsTup s.heap t xs) (ht0 : t ≠ z) (hn : xs.size ≤ sizeLine)
    (h : ∀ (g : Heap) (k : Nat) (acc : Array Value), (∀ b o, b ≠ z → s.heap.get? b = some o → g.get? b = some o) → ItemsOf (fun j v => xs[xs.size - 1 - j]? = some v) acc xs.size →
      Q₁ (.ref g.objs.size) { s with heap := g.push { cls := .type "tuple", data := .seq acc }, toks := k }) :
    codeAny (model P w) A (.call (.builtin "tuple.__new__") ⟨[.type "tuple", .ref z], []⟩) (wants Q₁ E) s := by
  refine codeAny_of_tree ?_
  show wpAny _ A.in1 (do checkBuiltinCall "tuple.__new__" ⟨[.type "tuple", .ref z], []⟩; again (.builtin "tuple.__new__" ⟨[.type "tuple", .ref z], []⟩)) _ _ s
  refine wpAny_bind (wpAny_of_eq (F.newCall_tuple_1 _) (wpAny_pure ⟨plainId_quiet F.plain_tuple_new _, codeAny_builtin F.entry_tuple_new ?_⟩))
  rw [Around.under_plainId F.plain_tuple_new _]
  have hsub := sub_tuple_self
  have hinit := init_tuple_lookup
  have hmh := madeHere_tuple
  have gT : s.TypeIs (.ref z) "reversed" := hz.typeIs
  have ah1 : A.in1.handled = none := ah
  wp_walk using wpAny_typeOf gT, rt_collect (A := A.in1) ah1 hz ht ht0 hn
  intro g k acc hk hacc
  show wpAny _ _ (Builtin.Tuple.tupleExact acc.toList.toArray >>= fun v => ret v) _ _ _
  unfold Builtin.Tuple.tupleExact
  refine wpAny_bind (wpAny_newObj_type ?_ (by show acc.toList.toArray.size ≤ sizeLine; simp only [Array.toArray_toList]; rw [hacc.1]; exact hn))
  refine wpAny_pure ?_
  have e : acc.toList.toArray = acc := by simp
  rw [e]
  exact h g k acc hk hacc
theorem rt_tuple {z t : Addr} {xs : Array Value} {Q : Value → Shared → Prop} (ah : A.handled = none) (hz : IsRt s.heap z t ((xs.size : Int) - 1)) (ht : IsTup s.heap t xs) (ht0 : t ≠ z) (hn : xs.size ≤ sizeLine)
    (hQ : ∀ (g : Heap) (k : Nat) (acc : Array Value), (∀ b o, b ≠ z → s.heap.get? b = some o → g.get? b = some o) → ItemsOf (fun j v => xs[xs.size - 1 - j]? = some v) acc xs.size →
      Q (.ref g.objs.size) { s with heap := g.push { cls := .type "tuple", data := .seq acc }, toks := k }) :
    wpAny (model P w) A (call (.type "tuple") [.ref z]) Q E s := by
  refine callType_codes (Q₁ := fun ob s₁ => s₁.TypeIs ob "tuple" ∧ Q ob s₁) F.called_tuple (F.typeCall_tuple_1 _) F.entry_object_init
    (rt_new (A := A.in1) ah hz ht ht0 hn fun g k acc hk hacc => ⟨⟨_, Heap.get?_push_size _ rfl, rfl⟩, hQ g k acc hk hacc⟩) fun ob s₁ q => ?_
  exact ⟨q.1, F.args_object_init_2 ob _, object_init_meets F.called_tuple.init.lookup F.called_tuple.made (by decide) P w A.in1 _ s₁ ⟨q.1, rfl, q.2⟩⟩
end
section
variable {X : Cx}
/-- tuple(reversed(t)), t a tuple -/
def tTupRevT (K : PySem.W.Frag) (te : TE) : TE := fun σ H Q => te σ H fun v H1 => ∃ (a : Addr) (xs : List V), v = .ref a ∧ SqT K H1 a xs ∧ ∀ q, H1 q = none → Q (.ref q) (upd H1 q (.tup xs.reverse))
theorem pe_tupRevT {e : Expr} {te : TE} {p p2 pos pos2 : Pos} (hc : X.calm = true) (hg : Gl X "tuple") (hm : X.mg "tuple" = none) (hg2 : Gl X "reversed") (hm2 : X.mg "reversed" = none) (he : PE X e te)
    (hs : starEach [e] X.env = (false, eval e X.env) :: starEach [] X.env := by rfl)
    (hs2 : starEach [.Call (.Name "reversed" p2) [e] [] pos2] X.env = (false, eval (.Call (.Name "reversed" p2) [e] [] pos2) X.env) :: starEach [] X.env := by rfl) :
    PE X (.Call (.Name "tuple" p) [.Call (.Name "reversed" p2) [e] [] pos2] [] pos) (tTupRevT X.K te) := by
  refine ⟨fun pins s σ H Q I h => ?_⟩
  have inner : ∀ u s1, EP X pins σ (fun v H1 => ∃ (a : Addr) (xs : List V), v = .ref a ∧ SqT X.K H1 a xs ∧ ∀ q, H1 q = none → Q (.ref q) (upd H1 q (.tup xs.reverse))) u s1 →
      wpAny (model X.prog X.w) X.A (call (.type "reversed") [u]) (fun r s2 => wpAny (model X.prog X.w) X.A (call (.type "tuple") [r]) (EP X pins σ Q) X.xe s2) X.xe s1 := by
    rintro u s1 ⟨v, H1, I1, r1, a, xs, rfl, hq, q⟩
    obtain rfl : u = Value.ref a := r1
    obtain ⟨its, rv, p', hz⟩ := I1.tuple hq
    have hn := line63
    have hl := rv.length
    have sz : its.toArray.size ≤ sizeLine := by rw [List.size_toArray, ← hl]; exact hz
    refine call_reversed_tup p' (fun A E Q k => len_tuple p' (by simp only [List.size_toArray] <;> omega) k) ?_
    have k0 : ∀ b o, s1.heap.get? b = some o → (s1.heap.push (rtObj a ((its.toArray.size : Int) - 1))).get? b = some o := fun b o e => Heap.get?_push_of_some _ e
    have I2 : Inv X pins σ H1 { s1 with heap := s1.heap.push (rtObj a ((its.toArray.size : Int) - 1)), toks := s1.toks + 1 + 1 } := I1.turned (t' := s1.toks + 1 + 1) (fun b o _ e => k0 b o e) (I1.fpOk (H' := H1) (b := s1.heap.objs.size) (Nat.le_refl _) (I1.hok.fresh (Nat.le_refl _))).1 (I1.fpOk (H' := H1) (b := s1.heap.objs.size) (Nat.le_refl _) (I1.hok.fresh (Nat.le_refl _))).2.1 (I1.fpOk (H' := H1) (b := s1.heap.objs.size) (Nat.le_refl _) (I1.hok.fresh (Nat.le_refl _))).2.2.2.1 (I1.fpOk (H' := H1) (b := s1.heap.objs.size) (Nat.le_refl _) (I1.hok.fresh (Nat.le_refl _))).2.2.2.2.1 (I1.fpOk (H' := H1) (b := s1.heap.objs.size) (Nat.le_refl _) (I1.hok.fresh (Nat.le_refl _))).2.2.2.2.2
    obtain ⟨f0, f1, f2, f3, f4, f5⟩ := I1.fpOk (H' := H1) (b := s1.heap.objs.size) (Nat.le_refl _) (I1.hok.fresh (Nat.le_refl _))
    obtain ⟨ol, hol, _⟩ := id p'
    have hne : a ≠ s1.heap.objs.size := Nat.ne_of_lt (Heap.lt_size hol)
    have pt : IsTup (s1.heap.push (rtObj a ((its.toArray.size : Int) - 1))) a its.toArray := by
      obtain ⟨o, ho, r⟩ := p'
      exact ⟨o, k0 _ _ ho, r⟩
    refine rt_tuple (s := { s1 with heap := s1.heap.push (rtObj a ((its.toArray.size : Int) - 1)), toks := s1.toks + 1 + 1 }) (I1.ok.hd hc) ⟨_, Heap.get?_push_size _ rfl, rfl, rfl⟩ pt hne sz fun g k acc hk hi => ?_
    have I3 : Inv X pins σ H1 { s1 with heap := g, toks := k } := I2.turned (t' := k) (fun b o hb e => hk b o hb e) f0 f1 f3 f4 f5
    refine ⟨.ref g.objs.size, upd H1 g.objs.size (.tup xs.reverse), I3.laid (t' := k) (fun c o e => Heap.get?_push_of_some _ e) (Nat.le_refl _) (show ObjOk X.prog X.w _ _ _ (.tup xs.reverse) from ⟨by rw [List.length_reverse]; exact hz, acc.toList, vals_rev rv hi, ?_⟩), rfl, q _ (I3.hok.fresh (Nat.le_refl _))⟩
    rw [Array.toArray_toList]
    exact IsTup.new _ _
  refine Call_ (ld_blt I hg hm boot_tuple (PyProof.Rows.callWith_type1 (args_cons (Call_ (ld_blt I hg2 hm2 PyProof.Rows.boot_reversed (PyProof.Rows.callWith_type1 (args_cons (thn (he.run pins s σ H _ I h) fun u s1 q => args_nil ?_) hs) hs rfl))) hs2) hs2 rfl))
  exact wpAny_mono (inner u s1 q) (fun r s2 z => args_nil z) fun _ _ z => z
variable {W : WX}
def dTupRev (da : DE) : DE := fun σ h X Q => da σ h X fun d h1 => ∃ l, d = .tup l ∧ Q (.tup l.reverse) h1
theorem se_tupRev {e : Expr} {de : DE} {p p2 pos pos2 : Pos} (hc : X.calm = true) (hm : X.mg "tuple" = none) (hm2 : X.mg "reversed" = none) (he : SE X W e de) (hg : Gl X "tuple" := by rfl) (hg2 : Gl X "reversed" := by rfl)
    (hs : starEach [e] X.env = (false, eval e X.env) :: starEach [] X.env := by rfl)
    (hs2 : starEach [.Call (.Name "reversed" p2) [e] [] pos2] X.env = (false, eval (.Call (.Name "reversed" p2) [e] [] pos2) X.env) :: starEach [] X.env := by rfl) :
    SE X W (.Call (.Name "tuple" p) [.Call (.Name "reversed" p2) [e] [] pos2] [] pos) (dTupRev de) := PE.imp (pe_tupRevT hc hg hm hg2 hm2 he hs hs2) fun σ H Q w => by
  obtain ⟨ρ, σd, h, Xd, Qd, hr, sr, w, kx, k⟩ := w
  refine ⟨ρ, σd, h, Xd, _, hr, sr, w, kx, fun ρ1 d h1 v H1 e1 hr1 dv q => ?_⟩
  obtain ⟨l, rfl, q⟩ := q
  obtain ⟨a, vs, rfl, ht, ds⟩ := dv
  exact ⟨a, vs, rfl, ht.sq, fun p np => k ρ1 _ h1 _ _ (e1.trans (.new1 np)) (hr1.new1 np) (.tupNew hr1 np ds.reverse) q⟩
end
end L2.MW

/-! MW, part I: xs[i] op= e, a, b = a list, enumerate, <= of tuples of ints, try that nothing leaves. -/
namespace L2.MW
open PySem PySem.Spec PyProof.Rows
section
variable {X : Cx} {W : WX} {pos p : Pos} {e a b : Expr} {da db de : DE}
theorem s1_augS {o i : Expr} {tpos : Pos} {dd di : DE} {ao : Operator} {tip : TIp} {op : D2} (L : L2ok X.K op tip) (hp : PIp X ao tip) (ho : SE X W o dd) (hi : SE X W i di) (he : SE X W e de)
    (ha : ∀ ov iv new, augStore i ov iv new = (do holding [new, ov, iv] (setItem ov iv new); release [new, ov, iv] []; pure .next) := by intros; rfl) : S1 X W (.AugAssign (.Subscript o i tpos) ao e pos) (sAugS op dd di de) := PS.imp (ps_augS ho hi get_list he hp set_list ha) fun Dn σ H w => by
  obtain ⟨ρ0, H0, ρ, σd, h, E, e0, hr, sr, w, k⟩ := w
  refine lE.go hr sr w (k.xw e0) fun ρ1 d1 h1 v1 H1 e1 hr1 sr1 kx1 dv1 w1 => lE.go hr1 sr1 w1 kx1 fun ρ2 d2 h2 v2 H2 e2 hr2 sr2 kx2 dv2 w2 => ?_
  obtain ⟨j, l, kk, n, c, rfl, rfl, hj, hn, hc, q⟩ := w2
  obtain ⟨a, vs, rfl, hja, hH, dvs⟩ := ref_lst hr2 (dv1.ext e2) hj
  have ev2 : v2 = .int kk := dv2
  subst ev2
  obtain ⟨cv, hcv, dcv⟩ := dvs.get hc
  have hat : atI vs kk = some cv := by
    unfold atI
    rw [dvs.length, hn]
    exact hcv
  refine ⟨a, vs, kk, cv, rfl, rfl, .of hH, hat, ?_⟩
  refine lE.go hr2 sr2 q kx2 fun ρ3 d3 h3 v3 H3 e3 hr3 sr3 kx3 dv3 w3 => ?_
  refine L ρ3 h3 H3 c d3 cv v3 _ _ hr3 (dcv.ext e3) dv3 w3 fun ρ4 z h4 v4 H4 e4 hr4 dv4 q4 => ?_
  obtain ⟨l', hj', hn', q4⟩ := q4
  have e24 : Ext ρ2 H2 ρ4 H4 := e3.trans e4
  have hja4 : ρ4[j]? = some a := e24.get hja
  obtain ⟨vs', hH', dvs'⟩ := hr4.at_ j _ a hj' hja4
  refine ⟨a, vs', kk, n, rfl, rfl, hH', by rw [dvs'.length]; exact hn', ?_⟩
  obtain ⟨a1, a2⟩ := write_lst hr4 hja4 (dvs'.set dv4 n)
  have ee := (((e0.trans e1).trans e2).trans e24).trans a2
  exact k.nx ρ4 _ _ _ _ ee a1 ((sr2.ext e24).ext a2) q4
theorem ip_xor0 : PIp X .BitXor (rI0 fun i j => .int (Builtin.bitXor i j)) := by
  intro pins s σ H x y v u Q I r1 r2 h
  exact iop_xor pins s σ H x y v u Q I r1 r2 h
theorem ip_sub0 : PIp X .Sub (rI0 fun i j => .int (i - j)) := by
  intro pins s σ H x y v u Q I r1 r2 h
  exact iop_sub pins s σ H x y v u Q I r1 r2 h
abbrev dIor : D2 := dI0 fun i j => .int (Builtin.bitOr i j)
abbrev dIxor : D2 := dI0 fun i j => .int (Builtin.bitXor i j)
abbrev dIadd : D2 := dI0 fun i j => .int (i + j)
theorem s1_augSor {o i : Expr} {tpos : Pos} {dd di : DE} (ho : SE X W o dd) (hi : SE X W i di) (he : SE X W e de)
    (ha : ∀ ov iv new, augStore i ov iv new = (do holding [new, ov, iv] (setItem ov iv new); release [new, ov, iv] []; pure .next) := by intros; rfl) : S1 X W (.AugAssign (.Subscript o i tpos) .BitOr e pos) (sAugS dIor dd di de) := s1_augS (L_I0 fun _ _ _ _ => rfl) ip_bor ho hi he ha
theorem s1_augSxor {o i : Expr} {tpos : Pos} {dd di : DE} (ho : SE X W o dd) (hi : SE X W i di) (he : SE X W e de)
    (ha : ∀ ov iv new, augStore i ov iv new = (do holding [new, ov, iv] (setItem ov iv new); release [new, ov, iv] []; pure .next) := by intros; rfl) : S1 X W (.AugAssign (.Subscript o i tpos) .BitXor e pos) (sAugS dIxor dd di de) := s1_augS (L_I0 fun _ _ _ _ => rfl) ip_xor0 ho hi he ha
theorem s1_augSadd {o i : Expr} {tpos : Pos} {dd di : DE} (ho : SE X W o dd) (hi : SE X W i di) (he : SE X W e de)
    (ha : ∀ ov iv new, augStore i ov iv new = (do holding [new, ov, iv] (setItem ov iv new); release [new, ov, iv] []; pure .next) := by intros; rfl) : S1 X W (.AugAssign (.Subscript o i tpos) .Add e pos) (sAugS dIadd dd di de) := s1_augS (L_I0 fun _ _ _ _ => rfl) ip_add0 ho hi he ha
/-- a, b, .. = a list of that length -/
def tgLst (n : Nat) (u : DGs) : DG := fun d σ h X Q => ∃ l, asL h d = some l ∧ l.length = n ∧ u l σ h X Q
theorem sg_lst {T : List Nat} {es : List Expr} {k n : Nat} {u : DGs} (hc : X.calm = true) (hu : SGs X W T es u) (hn : (assignEach es X.env).length = n := by rfl) (hst : (assignEach es X.env).findIdx? (·.1) = none := by rfl) :
    SG X W T (.Tuple es k pos) (tgLst n u) := PG.imp (pg_lst hc hu hn hst) fun v σ H Q w => by
  obtain ⟨ρ, σd, h, Xd, Qd, d, hr, sr, dv, ⟨l, el, hl, w⟩, kx, k⟩ := w
  obtain ⟨a, vs, rfl, hq, ds⟩ := asL_at hr dv el
  exact ⟨a, vs, rfl, hq, by rw [ds.length]; exact hl, ρ, σd, h, Xd, Qd, l, hr, sr, ds, w, k⟩
/-! ### enumerate(a list) -/
def enD (n : Nat) : List D → List D
  | [] => []
  | d :: ds => .tup [.int (n : Nat), d] :: enD (n + 1) ds
theorem enD_length : ∀ (n : Nat) (l : List D), (enD n l).length = l.length
  | _, [] => rfl
  | n, d :: ds => by rw [enD, List.length_cons, List.length_cons, enD_length]
theorem enD_get : ∀ (n : Nat) (l : List D) (i : Nat) (d : D), (enD n l)[i]? = some d → ∃ x, l[i]? = some x ∧ d = .tup [.int ((n + i : Nat) : Int), x]
  | _, [], _, _, h => by simp [enD] at h
  | n, x :: ds, 0, d, h => by
    simp [enD] at h
    exact ⟨x, rfl, h.symm⟩
  | n, x :: ds, i + 1, d, h => by
    obtain ⟨y, h1, h2⟩ := enD_get (n + 1) ds i d (by simpa [enD] using h)
    exact ⟨y, by simpa using h1, by rw [h2]; congr 3; omega⟩
theorem it_enum {K : PySem.W.Frag} {ρ0 : List Addr} {H0 : Hp} {a : Addr} {l : List D} {G : DHp → Prop} (hq : ∀ ρ h H, Ext ρ0 H0 ρ H → HR K ρ h H → G h → ∃ vs, SqL K H a vs ∧ DVs K ρ H l vs) : ItAt K ρ0 H0 (enD 0 l) G (Ite K a) := by
  intro ρ h H i e hr g
  obtain ⟨vs, q, dvs⟩ := hq ρ h H e hr g
  refine ⟨fun d hd => ?_, fun hl => ⟨vs, q, by rw [dvs.length]; rw [enD_length] at hl; exact hl⟩⟩
  obtain ⟨x, hx, rfl⟩ := enD_get 0 l i d hd
  obtain ⟨v, hv, dv⟩ := dvs.get hx
  refine ⟨⟨vs, v, q, hv⟩, fun u H' y => ?_⟩
  obtain ⟨T, x', rfl, np, rfl, y⟩ := y
  have z := y vs q
  rw [hv] at z; cases z
  refine ⟨.new1 np, hr.new1 np, .tupNew hr np ⟨_, _, by rw [Nat.zero_add], rfl, _, [], rfl, dv, rfl⟩⟩
theorem si_enum {ts : DA} {elts : List Expr} {kk : Nat} {tpos : Pos} (hm : X.mg "enumerate" = none) (ha : SA X W [e] ts) (hg : Gl X "enumerate" := by rfl) (hs : starEach [e] X.env = [(false, eval e X.env)] := by rfl) :
    SI X W (.Tuple elts kk tpos) (.Call (.Name "enumerate" p) [e] [] pos) (fun σ h X Q => ts σ h X fun ds h1 => ∃ d l, ds = [d] ∧ asL h1 d = some l ∧ Q (enD 0 l) (gdL d l) h1) :=
  PI.imp (pi_enum hg hm ha hs) fun σ H R w => by
    obtain ⟨ρ, σd, h, Xd, Qd, hr, sr, w, kx, k⟩ := w
    refine ⟨ρ, σd, h, Xd, _, hr, sr, w, kx, fun ρ1 ds h1 vs H1 e1 hr1 dvs q => ?_⟩
    obtain ⟨d, l, rfl, el, q⟩ := q
    obtain ⟨v, rfl, dv⟩ := dvs.un
    obtain ⟨a, ws, rfl, hq, dl⟩ := asL_at hr1 dv el
    refine ⟨a, ws, rfl, hq, k ρ1 _ _ h1 _ H1 e1 hr1 (it_enum fun ρ2 h2 H2 e2 hr2 g2 => ?_) q⟩
    obtain ⟨a', vs', e', hq', dvs'⟩ := asL_at hr2 (dv.ext e2) g2
    cases e'
    exact ⟨vs', hq', dvs'⟩
abbrev iEnumD (ts : DA) : DI := fun σ h X Q => ts σ h X fun ds h1 => ∃ d l, ds = [d] ∧ asL h1 d = some l ∧ Q (enD 0 l) (gdL d l) h1
abbrev iRevD (ts : DA) : DI := fun σ h X Q => ts σ h X fun ds h1 => ∃ d l, ds = [d] ∧ asL h1 d = some l ∧ Q l.reverse (gdL d l) h1
/-- <= of tuples of ints -/
def leNs (ns ms : List Int) : Bool := Ob.lexAt (fun j => decide (ns.getD j 0 = ms.getD j 0)) (fun j => decide (ns.getD j 0 ≤ ms.getD j 0)) (decide (ns.length ≤ ms.length)) 0 (min ns.length ms.length)
def dLeT : D2 := fun x y h Q => ∃ ns ms : List Int, x = .tup (ns.map D.int) ∧ y = .tup (ms.map D.int) ∧ Q (.bl (leNs ns ms)) h
theorem L_leT {K : PySem.W.Frag} : L2ok K dLeT (rLeT K) := by
  intro ρ h H x y vx vy Qd Q hr dx dy w k
  obtain ⟨ns, ms, rfl, rfl, q⟩ := w
  obtain ⟨a, vs, rfl, h1, d1⟩ := dx
  obtain ⟨b, us, rfl, h2, d2⟩ := dy
  have e1 := d1.ints
  have e2 := d2.ints
  subst e1 e2
  exact ⟨a, b, ns, ms, rfl, rfl, h1.sq, h2.sq, k ρ (.bl (leNs ns ms)) h _ H .refl hr rfl q⟩
theorem se_leT (hu : X.A.units < cLine) (ha : SE X W a da) (hb : SE X W b db) (hm : behindInMarks .LtE b = false := by first | exact nomark _ | rfl) : SE X W (.Compare a [.LtE] [b] pos) (dOp dLeT da db) := se_cmp (op_leT hu) L_leT ha hb hm
theorem st_leT (hu : X.A.units < cLine) (ha : SE X W a da) (hb : SE X W b db) (hm : behindInMarks .LtE b = false := by first | exact nomark _ | rfl) : ST X W (.Compare a [.LtE] [b] pos) (dTst (dOp dLeT da db)) := st_cmp (op_leT hu) L_leT ha hb hm
/-! ### try: nothing leaves the body -/
def sNox (t : DS) : DS := fun E σ h => t { E with ex := fun _ _ _ => False } σ h
theorem s1_try0 {body : List Stmt} {h₀ : ExceptHandler} {hs : List ExceptHandler} {t : DS} (hb : SS X.nox W0 body t) : S1 X W (.Try body (h₀ :: hs) [] [] pos) (sNox t) := PS.imp (ps_try_thru0 hb) fun Dn σ H w => by
  obtain ⟨ρ0, H0, ρ, σd, h, E, e0, hr, sr, w, k⟩ := w
  exact ⟨ρ0, H0, ρ, σd, h, _, e0, hr, sr, w, ⟨k.n0, k.nx, k.bk, k.ct, k.rt, fun _ _ _ _ _ _ _ _ _ _ _ _ z => z.elim⟩⟩
end
end L2.MW

/-! MW, part J: short names for the printed derivations. -/
namespace L2.MW
open PySem PySem.Spec PyProof.Rows
abbrev oSub : D2 := dI0 fun i j => .int (i - j)
abbrev oDiv : D2 := dII CDiv fun i j => .int (i / j)
abbrev oMod : D2 := dII (fun _ j => 0 < j) fun i j => .int (i % j)
abbrev oPow : D2 := dII CPow fun i j => .int (i ^ j.toNat)
abbrev oShl : D2 := dII CPow fun i j => .int (i * 2 ^ j.toNat)
abbrev oShr : D2 := dII (fun _ j => 0 ≤ j) fun i j => .int (i / 2 ^ j.toNat)
abbrev oAnd : D2 := dI0 fun i j => .int (Builtin.bitAnd i j)
abbrev oOr : D2 := dI0 fun i j => .int (Builtin.bitOr i j)
abbrev oXor : D2 := dI0 fun i j => .int (Builtin.bitXor i j)
abbrev oLt : D2 := dCI fun i j => decide (i < j)
abbrev oLe : D2 := dCI fun i j => decide (i ≤ j)
abbrev oGt : D2 := dCI fun i j => decide (j < i)
abbrev oGe : D2 := dCI fun i j => decide (j ≤ i)
abbrev nMax2 : DN := nI2 fun i j => if j > i then j else i
abbrev nMin2 : DN := nI2 fun i j => if j < i then j else i
theorem uu {k : Nat} {A : Around} (r : Room k A) : A.units + 64 < cLine := by have := r.un; omega
theorem uu1 {k : Nat} {A : Around} (r : Room k A) : A.units + 65 < cLine := by have := r.un; omega
theorem uu0 {k : Nat} {A : Around} (r : Room k A) : A.units < cLine := by have := r.un; omega
theorem takes00 {X : Cx} : L2N.Takes X W0 := fun u s' ⟨_, _, _, _, _, _, _, _, _, _, _, _, _, _, _, _, w⟩ => w.elim
end L2.MW

/-! MW, part L: how readings are shown: loops by an invariant, comprehensions as maps, the changing heap. -/
namespace L2.MW
open PySem PySem.Spec PyProof.Rows

/-! ### loops -/
theorem forW_inv {tb : DS} {g : DG} {G : DHp → Prop} {E : DEnds} (items : List D) (I : Nat → DSt → DHp → Prop) {σ : DSt} {h : DHp} (h0 : I 0 σ h) (hG : ∀ i σ h, i ≤ items.length → I i σ h → G h)
    (step : ∀ i x σ h (N : DSt → DHp → Prop), items[i]? = some x → I i σ h → (∀ σ' h', I (i + 1) σ' h' → N σ' h') → g x σ h (E.xx σ) fun σ' h' => tb { E with nx := N, ct := N, bk := E.nx } σ' h')
    (fin : ∀ σ h, I items.length σ h → E.nx σ h) : forW tb g G E items σ h := by
  have gen : ∀ (r : List D) (k : Nat), items.drop k = r → k ≤ items.length → ∀ σ h, I k σ h → forW tb g G E r σ h := by
    intro r
    induction r with
    | nil =>
      intro k e hk σ h i
      have hl : k = items.length := by
        have := congrArg List.length e
        rw [List.length_drop, List.length_nil] at this
        omega
      subst hl
      exact ⟨hG _ _ _ hk i, fin σ h i⟩
    | cons x xs ih =>
      intro k e hk σ h i
      have hx : items[k]? = some x := by
        have := congrArg (fun l => l[0]?) e
        rw [List.getElem?_drop] at this
        simpa using this
      have hlt : k < items.length := (List.getElem?_eq_some_iff.mp hx).1
      have hd : items.drop (k + 1) = xs := by
        have := congrArg List.tail e
        rw [List.tail_drop] at this
        simpa using this
      exact ⟨hG _ _ _ hk i, step k x σ h _ hx i fun σ' h' i' => ih (k + 1) hd hlt σ' h' i'⟩
  exact gen items 0 rfl (Nat.zero_le _) σ h h0
/-! ### comprehensions -/
theorem at_end {h : DHp} {b : HB} : (h ++ [b])[h.length]? = some b := by rw [List.getElem?_append_right (Nat.le_refl _), Nat.sub_self]; rfl
theorem set_end {h : DHp} {b c : HB} : (h ++ [b]).set h.length c = h ++ [c] := by rw [List.set_append_right _ _ (Nat.le_refl _), Nat.sub_self]; rfl
theorem at_k {h l : DHp} {k : Nat} : (h ++ l)[h.length + k]? = l[k]? := by rw [List.getElem?_append_right (Nat.le_add_right _ _), Nat.add_sub_cancel_left]
theorem at_0 {h l : DHp} : (h ++ l)[h.length]? = l[0]? := by rw [List.getElem?_append_right (Nat.le_refl _), Nat.sub_self]
theorem set_k {h l : DHp} {k : Nat} {c : HB} : (h ++ l).set (h.length + k) c = h ++ l.set k c := by rw [List.set_append_right _ _ (Nat.le_add_right _ _), Nat.add_sub_cancel_left]
theorem set_0 {h l : DHp} {c : HB} : (h ++ l).set h.length c = h ++ l.set 0 c := by rw [List.set_append_right _ _ (Nat.le_refl _), Nat.sub_self]
def lcF (f : D → D) (p : D → Bool) (items : List D) : List D := (items.filter p).map f
/-- each item: p tells if it is taken, f what is made of it -/
theorem lc_map {g : DG} {tt : DT} {te : DE} {G : DHp → Prop} {h1 : DHp} {σ : DSt} {Q : DHp → Prop} (f : D → D) (p : D → Bool) (items : List D) (hG : ∀ acc, G (h1 ++ [.lst acc])) (hl : items.length ≤ sizeLine)
    (hx : ∀ x ∈ items, ∀ (acc : List D) (R : DHp → Prop), acc.length < sizeLine → (p x = true → R (h1 ++ [.lst (acc ++ [f x])])) → (p x = false → R (h1 ++ [.lst acc])) →
      g x σ (h1 ++ [.lst acc]) X0 fun σ2 h2 => tt σ2 h2 X0 fun b h3 => (b = true → te σ2 h3 X0 fun y h4 => ∃ acc, h4[h1.length]? = some (.lst acc) ∧ acc.length < sizeLine ∧ R (h4.set h1.length (.lst (acc ++ [y])))) ∧ (b = false → R h3))
    (q : Q (h1 ++ [.lst (lcF f p items)])) : lcH g tt te G h1.length σ items (h1 ++ [.lst []]) Q := by
  have gen : ∀ (r done : List D), items = done ++ r → lcH g tt te G h1.length σ r (h1 ++ [.lst (lcF f p done)]) Q := by
    intro r
    induction r with
    | nil =>
      intro done e
      rw [List.append_nil] at e
      subst e
      exact ⟨hG _, q⟩
    | cons x xs ih =>
      intro done e
      have hlen : (lcF f p done).length < sizeLine := by
        have l1 : (lcF f p done).length ≤ done.length := by unfold lcF; rw [List.length_map]; exact List.length_filter_le _ _
        have l2 : done.length < items.length := by rw [e, List.length_append, List.length_cons]; omega
        omega
      refine ⟨hG _, hx x (by rw [e]; simp) _ (fun hh => lcH g tt te G h1.length σ xs hh Q) hlen (fun hp => ?_) fun hp => ?_⟩
      · have := ih (done ++ [x]) (by rw [e]; simp)
        have e2 : lcF f p (done ++ [x]) = lcF f p done ++ [f x] := by unfold lcF; rw [List.filter_append, List.map_append]; simp [List.filter_cons, hp]
        rw [e2] at this
        exact this
      · have := ih (done ++ [x]) (by rw [e]; simp)
        have e2 : lcF f p (done ++ [x]) = lcF f p done := by unfold lcF; rw [List.filter_append, List.map_append]; simp [List.filter_cons, hp]
        rw [e2] at this
        exact this
  exact gen items [] rfl
/-! ### what may stand anywhere: data without places -/
theorem Bds_all {m : Nat} : ∀ {l : List D}, (∀ x ∈ l, Bd m x) → Bds m l
  | [], _ => trivial
  | d :: ds, h => ⟨h d List.mem_cons_self, Bds_all fun x hx => h x (List.mem_cons_of_mem _ hx)⟩
theorem Bd.of_pl : ∀ (n : Nat) (d : D), OkD n d → ∀ m, Bd m d := by
  intro n
  induction n with
  | zero => intro d h m; cases d <;> first | trivial | exact False.elim h
  | succ n ih =>
    intro d h m
    cases d with
    | tup l => exact Bds_all fun x hx => ih x (h x hx) m
    | lst l => exact Bds_all fun x hx => ih x (h x hx) m
    | fz l => exact Bds_all fun x hx => ih x (h x hx) m
    | _ => first | trivial | exact False.elim h
theorem Bds.of_pl (n : Nat) (l : List D) (h : ∀ x ∈ l, OkD n x) (m : Nat) : Bds m l := Bds_all fun x hx => Bd.of_pl n x (h x hx) m
theorem OkD.ints {n : Nat} {l : List Int} : ∀ x ∈ l.map D.int, OkD n x := fun x hx => by
  obtain ⟨i, _, rfl⟩ := List.mem_map.mp hx
  cases n <;> trivial
theorem Bds.ints {m : Nat} {l : List Int} : Bds m (l.map D.int) := Bds.of_pl 0 _ OkD.ints m
/-! ### bits -/
theorem bOr (a b : Nat) : Builtin.bitOr (a : Int) (b : Int) = ((a ||| b : Nat) : Int) := by
  rw [bitOr_nn (by omega) (by omega)]; simp
theorem bAnd (a b : Nat) : Builtin.bitAnd (a : Int) (b : Int) = ((a &&& b : Nat) : Int) := by
  rw [bitAnd_pp (by omega) (by omega)]; simp
theorem bXor (a b : Nat) : Builtin.bitXor (a : Int) (b : Int) = ((a ^^^ b : Nat) : Int) := by
  rw [Bits.bitXor_pp (by omega) (by omega)]; simp
theorem bShl (j : Nat) : (1 : Int) * 2 ^ j = ((2 ^ j : Nat) : Int) := by push_cast; omega
theorem bShr (a j : Nat) : (a : Int) / 2 ^ j = ((a >>> j : Nat) : Int) := by
  rw [Nat.shiftRight_eq_div_pow]; push_cast; rfl
theorem bBit (a j : Nat) : Builtin.bitAnd ((a : Int) / 2 ^ j) 1 = if a.testBit j then 1 else 0 := by
  rw [bShr, show (1 : Int) = ((1 : Nat) : Int) from rfl, bAnd]
  have e : (a >>> j) &&& 1 = (a.testBit j).toNat := by
    rw [Nat.and_one_is_mod, Nat.testBit_eq_decide_div_mod_eq, Nat.shiftRight_eq_div_pow]
    have : a / 2 ^ j % 2 < 2 := Nat.mod_lt _ (by decide)
    by_cases q : a / 2 ^ j % 2 = 1 <;> simp [q] <;> omega
  rw [e]
  cases a.testBit j <;> rfl
end L2.MW

/-! MW, part M: the operations at known values. -/
namespace L2.MW
open PySem PySem.Spec PyProof.Rows
section
variable {h : DHp} {Q : DK} {l m : List D} {i j : Int} {d x y : D}
theorem tru_bl {b : Bool} : truD h (.bl b) = some b := rfl
theorem tru_int : truD h (.int i) = some (i != 0) := rfl
theorem asL_lst : asL h (.lst l) = some l := rfl
theorem asL_fz : asL h (.fz l) = some l := rfl
theorem asL_ref {k : Nat} (e : h[k]? = some (.lst l)) : asL h (.ref k) = some l := by
  show (match h[k]? with | some (.lst l) => some l | _ => none) = some l
  rw [e]
theorem asX_lst : asX h (.lst l) = some l := rfl
theorem asX_ref {k : Nat} (e : h[k]? = some (.lst l)) : asX h (.ref k) = some l := by
  show (match h[k]? with | some (.lst l) => some l | _ => none) = some l
  rw [e]
theorem asS_tup : asS h (.tup l) = some l := rfl
theorem asS_lst : asS h (.lst l) = some l := rfl
theorem asS_fz : asS h (.fz l) = some l := rfl
theorem asS_ref {k : Nat} (e : h[k]? = some (.lst l)) : asS h (.ref k) = some l := asL_ref e
theorem ix_of (e : asS h x = some l) (e2 : atI l i = some d) (q : Q d h) : dIx x (.int i) h Q := ⟨i, rfl, .inl ⟨l, d, e, e2, q⟩⟩
theorem ix_eq (e : asS h x = some l) (e2 : atI l i = some d) : dIx x (.int i) h Q ↔ Q d h := by
  constructor
  · rintro ⟨i', e', w⟩
    cases e'
    rcases w with ⟨l', d', e3, e4, q⟩ | ⟨z, c, rfl, _, _, _⟩
    · rw [e] at e3; cases e3
      rw [e2] at e4; cases e4
      exact q
    · cases e
  · exact ix_of e e2
theorem ix_tup (e2 : atI l i = some d) : dIx (.tup l) (.int i) h Q ↔ Q d h := ix_eq rfl e2
theorem ix_lst (e2 : atI l i = some d) : dIx (.lst l) (.int i) h Q ↔ Q d h := ix_eq rfl e2
theorem ix_fz (e2 : atI l i = some d) : dIx (.fz l) (.int i) h Q ↔ Q d h := ix_eq rfl e2
theorem ix_ref {k : Nat} (e : h[k]? = some (.lst l)) (e2 : atI l i = some d) : dIx (.ref k) (.int i) h Q ↔ Q d h := ix_eq (asS_ref e) e2
theorem ixN_nat {n k : Nat} (hk : k < n) : ixN n (k : Int) = some k := by unfold ixN; rw [if_pos (by omega), if_pos (by omega)]; simp
theorem atI_nat {α : Type} {l : List α} {k : Nat} {a : α} (e : l[k]? = some a) : atI l (k : Int) = some a := by
  unfold atI
  rw [ixN_nat (List.getElem?_eq_some_iff.mp e).1]
  exact e
theorem atI_0 {α : Type} {a : α} {r : List α} : atI (a :: r) 0 = some a := atI_nat (k := 0) rfl
theorem atI_1 {α : Type} {a b : α} {r : List α} : atI (a :: b :: r) 1 = some b := atI_nat (k := 1) rfl
theorem atI_2 {α : Type} {a b c : α} {r : List α} : atI (a :: b :: c :: r) 2 = some c := atI_nat (k := 2) rfl
theorem len_of (e : asS h x = some l) (q : Q (.int l.length) h) : nLen [x] h Q := ⟨x, rfl, .inl ⟨l, e, q⟩⟩
theorem len_eq (e : asS h x = some l) : nLen [x] h Q ↔ Q (.int l.length) h := by
  constructor
  · rintro ⟨x', e', w⟩
    cases e'
    rcases w with ⟨l', e3, q⟩ | ⟨z, rfl, _, _⟩
    · rw [e] at e3; cases e3; exact q
    · cases e
  · exact len_of e
theorem len_tup : nLen [.tup l] h Q ↔ Q (.int l.length) h := len_eq rfl
theorem len_lst : nLen [.lst l] h Q ↔ Q (.int l.length) h := len_eq rfl
theorem len_fz : nLen [.fz l] h Q ↔ Q (.int l.length) h := len_eq rfl
theorem ne_int : dNe (.int i) (.int j) h Q ↔ Q (.bl (!(i == j))) h := ⟨fun w => w.2.2, fun q => ⟨trivial, trivial, q⟩⟩
theorem eq_int : dEq (.int i) (.int j) h Q ↔ Q (.bl (i == j)) h := ⟨fun w => w.2.2, fun q => ⟨trivial, trivial, q⟩⟩
theorem ne_bl {a b : Bool} : dNe (.bl a) (.bl b) h Q ↔ Q (.bl (!(a == b))) h := by
  have e : deq (.bl a) (.bl b) = (a == b) := by cases a <;> cases b <;> rfl
  unfold dNe
  show _ ∧ _ ∧ Q (.bl (!deq (.bl a) (.bl b))) h ↔ _
  rw [e]
  exact ⟨fun w => w.2.2, fun q => ⟨trivial, trivial, q⟩⟩
theorem eq_bl {a b : Bool} : dEq (.bl a) (.bl b) h Q ↔ Q (.bl (a == b)) h := by
  have e : deq (.bl a) (.bl b) = (a == b) := by cases a <;> cases b <;> rfl
  unfold dEq
  show _ ∧ _ ∧ Q (.bl (deq (.bl a) (.bl b))) h ↔ _
  rw [e]
  exact ⟨fun w => w.2.2, fun q => ⟨trivial, trivial, q⟩⟩
theorem add_int : dAdd (.int i) y h Q ↔ ∃ j, y = .int j ∧ Q (.int (i + j)) h := Iff.rfl
theorem add_tup : dAdd (.tup l) (.tup m) h Q ↔ l.length + m.length ≤ sizeLine ∧ Q (.tup (l ++ m)) h := by
  constructor
  · rintro ⟨b, e, q⟩; cases e; exact q
  · intro q; exact ⟨m, rfl, q⟩
theorem mul_int : dMul (.int i) (.int j) h Q ↔ CMul i j ∧ Q (.int (i * j)) h := by
  constructor
  · rintro ⟨b, e, q⟩; cases e; exact q
  · intro q; exact ⟨j, rfl, q⟩
end
theorem int_int {h : DHp} {Q : DK} {i : Int} : nInt [.int i] h Q ↔ Q (.int i) h := by
  constructor
  · rintro (⟨j, e, q⟩ | ⟨b, e, q⟩)
    · cases e; exact q
    · cases e
  · intro q; exact .inl ⟨i, rfl, q⟩
theorem int_bl {h : DHp} {Q : DK} {b : Bool} : nInt [.bl b] h Q ↔ Q (.int (b2D b)) h := by
  constructor
  · rintro (⟨j, e, q⟩ | ⟨b', e, q⟩)
    · cases e
    · cases e; exact q
  · intro q; exact .inr ⟨b, rfl, q⟩
theorem ty_end {h : DHp} {l : List D} : tyM "list" (h ++ [.lst l]) (.ref h.length) ↔ True := ⟨fun _ => trivial, fun _ => .inl ⟨rfl, l, asL_ref at_end⟩⟩
theorem tgs_cons_eq {t : DG} {u : DGs} {d : D} {r : List D} {σ : DSt} {h : DHp} {X : DX} {Q : DSt → DHp → Prop} : tgsCons t u (d :: r) σ h X Q ↔ t d σ h (fun _ _ => False) (fun σ' h' => u r σ' h' X Q) := by
  constructor
  · rintro ⟨d', r', e, q⟩; cases e; exact q
  · intro q; exact ⟨d, r, rfl, q⟩
theorem tgs_nil_eq {σ : DSt} {h : DHp} {X : DX} {Q : DSt → DHp → Prop} : tgsNil [] σ h X Q ↔ Q σ h := ⟨fun w => w.2, fun q => ⟨rfl, q⟩⟩
theorem tg_tup_eq {n : Nat} {u : DGs} {l : List D} {σ : DSt} {h : DHp} {X : DX} {Q : DSt → DHp → Prop} : tgTup n u (.tup l) σ h X Q ↔ l.length = n ∧ u l σ h X Q := by
  constructor
  · rintro ⟨d', e, q⟩; cases e; exact q
  · intro q; exact ⟨l, rfl, q⟩
theorem tg_lst_eq {n : Nat} {u : DGs} {l : List D} {σ : DSt} {h : DHp} {X : DX} {Q : DSt → DHp → Prop} : tgLst n u (.lst l) σ h X Q ↔ l.length = n ∧ u l σ h X Q := by
  constructor
  · rintro ⟨d', e, q⟩; cases e; exact q
  · intro q; exact ⟨l, rfl, q⟩
theorem asS_end {h : DHp} {l : List D} : asS (h ++ [.lst l]) (.ref h.length) = some l := asS_ref at_end
theorem asL_end {h : DHp} {l : List D} : asL (h ++ [.lst l]) (.ref h.length) = some l := asL_ref at_end
theorem at_pre {h : DHp} {b c : HB} : (h ++ [b] ++ [c])[h.length]? = some b := by
  rw [List.append_assoc, List.getElem?_append_right (Nat.le_refl _), Nat.sub_self]; rfl
theorem set_pre {h : DHp} {b c d : HB} : (h ++ [b] ++ [c]).set h.length d = h ++ [d] ++ [c] := by
  rw [List.append_assoc, List.set_append_right _ _ (Nat.le_refl _), Nat.sub_self, List.append_assoc]; rfl
theorem ty_pre {h : DHp} {l : List D} {c : HB} : tyM "list" (h ++ [.lst l] ++ [c]) (.ref h.length) ↔ True := ⟨fun _ => trivial, fun _ => .inl ⟨rfl, l, asL_ref at_pre⟩⟩
theorem rt_frzG {h hh g : DHp} {X : DX} {Q : DK} {i : Nat} {l : List D} (e : hh = h ++ g) (hi : h.length ≤ i) (el : hh[i]? = some (.lst l)) (b : Bds h.length l) (q : Q (.lst l) h) : (endsD h X Q).rt (.ref i) hh := by
  subst e
  exact rt_frz hi el b q
/-! ### what is walked -/
theorem rg_get {n i : Nat} {x : D} (h : (rgD 0 n)[i]? = some x) : x = .int (i : Int) ∧ i < n := by
  unfold rgD at h
  rw [List.getElem?_map] at h
  have hi : i < n := by
    by_cases hi : i < n
    · exact hi
    · rw [List.getElem?_eq_none (by rw [List.length_range]; omega)] at h; cases h
  rw [List.getElem?_range hi] at h
  simp at h
  exact ⟨h.symm, hi⟩
theorem rg_len {lo : Int} {n : Nat} : (rgD lo n).length = n := by unfold rgD; rw [List.length_map, List.length_range]
theorem rg_mem {n : Nat} {x : D} (h : x ∈ rgD 0 n) : ∃ i, i < n ∧ x = .int (i : Int) := by
  obtain ⟨i, hi, rfl⟩ := List.getElem_of_mem h
  obtain ⟨e, hn⟩ := rg_get (List.getElem?_eq_getElem hi)
  exact ⟨i, hn, e⟩
theorem get_map {α : Type} {f : α → D} {l : List α} {i : Nat} {x : D} (h : (l.map f)[i]? = some x) : ∃ a, l[i]? = some a ∧ x = f a ∧ l.take (i + 1) = l.take i ++ [a] ∧ l.drop i = a :: l.drop (i + 1) ∧ a ∈ l := by
  rw [List.getElem?_map] at h
  cases q : l[i]? with
  | none => rw [q] at h; cases h
  | some a =>
    rw [q] at h
    have hl : i < l.length := (List.getElem?_eq_some_iff.mp q).1
    have ea : l[i] = a := (List.getElem?_eq_some_iff.mp q).2
    refine ⟨a, rfl, (Option.some.inj h).symm, ?_, ?_, List.mem_of_getElem? q⟩
    · rw [List.take_succ_eq_append_getElem hl, ea]
    · rw [List.drop_eq_getElem_cons hl, ea]
theorem drop_get {l : List D} {i : Nat} {x : D} (h : l[i]? = some x) : l.take (i + 1) = l.take i ++ [x] ∧ l.drop i = x :: l.drop (i + 1) ∧ x ∈ l := by
  have hl : i < l.length := (List.getElem?_eq_some_iff.mp h).1
  have ea : l[i] = x := (List.getElem?_eq_some_iff.mp h).2
  exact ⟨by rw [List.take_succ_eq_append_getElem hl, ea], by rw [List.drop_eq_getElem_cons hl, ea], List.mem_of_getElem? h⟩
theorem rgOk {n : Nat} (h : n < 4000000) : RgD 0 (n : Int) := ⟨by decide, by decide, by omega, by omega⟩
theorem small {n : Nat} (h : n ≤ 4000000) : n ≤ sizeLine := Nat.le_trans h (by decide)
theorem smallL {n : Nat} (h : n < 4000000) : n < sizeLine := Nat.lt_of_lt_of_le h (by decide)
theorem rt_of {h0 h : DHp} {X : DX} {Q : DK} {d : D} (q : Q d h) : (endsD h0 X Q).rt d h := rt_keep q
theorem rt_lst {h : DHp} {X : DX} {Q : DK} {l : List D} {g : DHp} (b : Bds h.length l) (q : Q (.lst l) h) : (endsD h X Q).rt (.ref h.length) (h ++ .lst l :: g) := rt_frz0 b q
theorem rt_back {h : DHp} {X : DX} {Q : DK} {d : D} {g : DHp} (b : Bd h.length d) (q : Q d h) : (endsD h X Q).rt d (h ++ g) := rt_cut b q
theorem cut_mem {l : List D} {lo hi : Option Int} {x : D} (h : x ∈ cutD l lo hi) : x ∈ l := List.mem_of_mem_drop (List.mem_of_mem_take h)
theorem cut_len {l : List D} {lo hi : Option Int} : (cutD l lo hi).length ≤ l.length := by
  unfold cutD
  rw [List.length_take, List.length_drop]
  omega
end L2.MW

/-! MW, part N: the ends: keywords at a def, the law's call. -/
namespace L2.MW
open PySem PySem.Spec PyProof.Rows
/-- a promise that lets nothing out, in the plain context -/
theorem cx0 {P : Program} {w : World} {K : PySem.W.Frag} {mg : Str → Option Value} {base : Heap} {k : Nat} {f : Addr} {fd : FuncData} {ps : List Str} {sp : Sp} (F : FnOk P w K mg base (L2N.CX P w) k f fd ps sp) :
    FnOk P w K mg base CX0 k f fd ps (fun vs H Q _ => sp vs H Q fun _ _ _ => False) := by
  refine ⟨fun vs H Q E h => F.len vs H Q _ h, fun A outer s H args us vs Q E hr he hb hv h => codeAny_mono (F.run A outer s H args us vs Q _ hr he hb hv h) fun r s' q => ?_⟩
  cases r with
  | error e => obtain ⟨_, _, _, _, _, _, _, _, _, _, _, _, z⟩ := q; exact z.elim
  | ok fl => cases fl <;> exact q
/-- keywords alone -/
theorem bindsK {K : PySem.W.Frag} {x qual : Str} {params : Arguments} {body : List Stmt} {scope : Scope} {kws : List (Str × V)} {f : Addr} {fd : FuncData} (F : FunD K x qual params body scope [] kws f fd) (s : Shared) {args : Args} {bs : List (Str × Value)}
    (h : ∀ (kV doc pm : Value) (an : Option Addr) (cdv ct : Value), bindArgs (PySem.W.fnOf x qual params body scope .none kV doc pm an cdv ct) args = pure bs) : BindsTo s fd args bs := by
  obtain ⟨oc, od, dV, kV, doc, pm, an, cdv, ct, osl, rfl, lk, hcd, hD, hK⟩ := F.ex
  rcases hD with ⟨_, rfl⟩ | ⟨e, _⟩
  · exact .of_eq (h kV doc pm an cdv ct)
  · exact absurd rfl e
/-- the law's own call: the script is the others' list -/
theorem law_sp {K : PySem.W.Frag} {c : Ct} {H : Hp} {a : Addr} {ns : List Int} (hS : SqL K H a (ns.map V.int)) (hc : c [.fz (ns.map D.int)] [] X0 fun d _ => d = .bl true) : spOf K 1 c [.ref a] H (fun v _ => v = .bl true) fun _ _ _ => False := by
  refine ⟨[], [.fz (ns.map D.int)], [], X0, _, rfl, ⟨rfl, List.nodup_nil, fun i b a h => by simp at h⟩, ⟨.ref a, [], rfl, ⟨a, ns.map V.int, rfl, ?_, DVs.of_ints⟩, rfl⟩, hc, fun _ _ _ _ _ _ _ _ _ z => z.elim, fun ρ' d h' v H' _ _ dv q => ?_⟩
  · exact hS.imp (fun h => ⟨by simp, h⟩) id
  · subst q; exact dv
end L2.MW

/-! MW, part T: try with except clauses, with and without a name; errors of own classes with fields. -/
namespace L2.MW
open PySem PySem.Spec PyProof.Rows
/-- a clause: its class, the slot of its name, its suite's reading -/
abbrev Cl := Value × Option Nat × (Addr → Value → Option Addr → TS)
def goneE (i : Nat) (D : Ends) : Ends := { nx := fun σ' H' => D.nx (σ'.set i none) H', rt := D.rt, bk := fun σ' H' => D.bk (σ'.set i none) H', ct := fun σ' H' => D.ct (σ'.set i none) H' }
def runCl (o : Option Nat) (ts : Addr → Value → Option Addr → TS) (a : Addr) (cls : Value) (d : Option Addr) (D : Ends) (σ : St) (H : Hp) : Prop := match o with
  | none => ts a cls d D σ H
  | some i => ts a cls d (goneE i D) (σ.set i (some (.ref a))) H
def wCl (K : PySem.W.Frag) (Wout : WX) (D : Ends) : List Cl → WX
  | [] => Wout
  | (c, o, ts) :: r => fun cls d σ H => ∃ b, PySem.W.exmOne K cls c = some b ∧ (b = true → ∀ a, H a = none → runCl o ts a cls d D σ H) ∧ (b = false → wCl K Wout D r cls d σ H)
/-- what a suite must do -/
def SuOk (X : Cx) (su : List Stmt) (ts : Addr → Value → Option Addr → TS) : Prop :=
  ∀ (a : Addr) (oe : Obj) (cls : Value) (d : Option Addr) (pn : List (Addr × Obj)), Zc cls d oe → (∃ vs, oe.data = .fields vs) → L2H.HotC (X.suite a ((a, oe) :: pn)) → PSs (X.suite a ((a, oe) :: pn)) su (ts a cls d)
inductive ClOk (X : Cx) : List ExceptHandler → List Cl → Prop
  | nil : ClOk X [] []
  | bare {x : Str} {c : Value} {ts : Addr → Value → Option Addr → TS} {b₀ : Stmt} {su : List Stmt} {np pos' : Pos} {hds : List ExceptHandler} {l : List Cl} (hc : Names X x c) (hsu : SuOk X (b₀ :: su) ts) (r : ClOk X hds l) :
      ClOk X (.ExceptHandler (some (.Name x np)) none (b₀ :: su) pos' :: hds) ((c, none, ts) :: l)
  | named {x n : Str} {c : Value} {i : Nat} {ts : Addr → Value → Option Addr → TS} {b₀ : Stmt} {su : List Stmt} {np pos' : Pos} {hds : List ExceptHandler} {l : List Cl} (hi : X.N[i]? = some n) (hln : X.env.kindOf n = some .local) (hc : Names X x c) (hsu : SuOk X (b₀ :: su) ts) (r : ClOk X hds l) :
      ClOk X (.ExceptHandler (some (.Name x np)) (some n) (b₀ :: su) pos' :: hds) ((c, some i, ts) :: l)
section
variable {X : Cx} {body : List Stmt} {hd0 : ExceptHandler} {hds : List ExceptHandler} {l : List Cl} {pos : Pos} {tb : WX → TS} {Wout : WX}
theorem ps_try_cl (hs : X.stack = X.env :: X.outer) (hf : X.env.frame = some X.env.locals) (hN : X.N.Nodup) (tk : L2N.Takes X Wout)
    (hb : ∀ (W : WX) (pn : List (Addr × Obj)) (xe : Value → Shared → Prop), L2N.Takes (X.tr pn xe) W → PassesOwn (model X.prog X.w) X.A X.env xe → PSs (X.tr pn xe) body (tb W))
    (hh : ClOk X (hd0 :: hds) l) : PS X (.Try body (hd0 :: hds) [] [] pos) (fun D σ H => tb (wCl X.K Wout D l) D σ H) := by
  refine ⟨fun pins s σ H D I h => ?_⟩
  have ok := I.ok
  have fr : X.A.frames = some (X.env :: X.outer) := by rw [ok.frames, hs]
  refine wpAny_Try_except ?_
  refine wpAny_mono ((hb (wCl X.K Wout D l) (X.pn ++ pins) (fun e t1 => wpAny (model X.prog X.w) X.A (noteFrame e X.env) (fun _ t2 => wpAny (model X.prog X.w) X.A (setFlight e none) (fun _ t3 =>
    wpAny (model X.prog X.w) X.A (handleBy e X.env (hd0 :: hds)) (SP X pins D) X.xe t3) X.xe t2) X.xe t1) (fun u s' xx => ?_) PassesOwn.looking).run [] s σ H D (I.toTry _) h) (fun f s1 sp => ?_) (fun e s1 he => he)
  · obtain ⟨a, B, sI, pins', σ', H', cls, d, rfl, J', nb, up, sky, na, os, ag, w⟩ := xx
    have J : Inv X pins σ' H' sI := J'.ofTry ok
    have sk : Sky B (X.env :: X.outer) a (L2N.Zn cls d) X.env.locals s'.heap := by rw [← hs]; exact sky
    show wpAny _ X.A (noteFrame (.ref a) X.env) _ _ _
    refine L2N.Sky.land L2N.Zn.steady fr hf sk fun h3 f3 u3 => ?_
    have J3 : Inv X pins σ' H' { s' with heap := h3 } := J.landed nb f3.1 (up.trans u3) os ag
    obtain ⟨o3, v3, e3, z3, d3⟩ := f3.there
    have nfr : a ∉ frs (X.env :: X.outer) := fun hm => by
      obtain ⟨_, o', e', no⟩ := f3.2.2.1.mem hm
      rw [e3] at e'; cases e'
      exact no _ d3
    have nL : a ≠ X.env.locals := fun z => nfr (List.mem_filterMap.mpr ⟨X.env, List.mem_cons_self, by rw [hf, z]⟩)
    have nF : a ∉ X.fs := fun hm => by
      obtain ⟨e, he, q⟩ := List.mem_filterMap.mp hm
      exact nfr (List.mem_filterMap.mpr ⟨e, List.mem_cons_of_mem _ he, q⟩)
    have S3 := J3.suite e3 d3 na nL nF
    have LT : PySem.W.Looks (model X.prog X.w) h3 (typeOf (.ref a)) cls := fun A Q E s k q => wpAny_typeOf_ref (k _ _ e3) (by rw [z3.1]; exact q)
    have test : ∀ {x : Str} {c : Value} {np : Pos} {Q : Value → Shared → Prop} {E : Value → Shared → Prop}, Names X x c → Q c { s' with heap := h3 } → wpAny (model X.prog X.w) (X.A.mark (some (.ref a))) (eval (.Name x np) X.env) Q E { s' with heap := h3 } := fun {x c np Q E} hc q => by
      obtain ⟨hg, hdbg, hm | ⟨hm, hv, hnn⟩⟩ := hc
      · exact ld_glob (X := X.suite a ((a, o3) :: (X.pn ++ pins))) S3 hg hm q hdbg
      · exact ld_blt (X := X.suite a ((a, o3) :: (X.pn ++ pins))) S3 hg hm hv q hnn hdbg
    have go : ∀ {hs' : List ExceptHandler} {l' : List Cl}, ClOk X hs' l' → wCl X.K Wout D l' cls d σ' H' → wpAny (model X.prog X.w) X.A (handleBy (.ref a) X.env hs') (SP X pins D) X.xe { s' with heap := h3 } := by
      intro hs' l' hk
      induction hk with
      | nil =>
        intro w
        refine wpAny_handleBy_nil ?_
        obtain ⟨k1, k2, k3, oe, vs, T, oT, ts', he, hz, hd, h1, hr⟩ := id f3
        unfold PySem.passOn
        refine wpAny_bind (wpAny_field he hd h1 ?_)
        rw [if_neg (show ¬ ((Value.ref T == Value.none) = true) from by simp)]
        have fin : wpAny (model X.prog X.w) X.A (setFlight (.ref a) X.env.frame) (fun _ s4 => wpAny (model X.prog X.w) X.A (throw (.ref a) : Sem Flow) (SP X pins D) X.xe s4) X.xe { s' with heap := h3 } := by
          rw [hf]
          refine HandSPX.setFlight_upZ f3 fun h4 hh4 up4 => wpAny_throw (tk _ _ ?_)
          exact ⟨a, B, sI, pins, σ', H', cls, d, rfl, J, nb, (up.trans u3).trans up4, .inr (.inr (by rw [hs]; exact hh4)), na, os, ag, w⟩
        first
          | exact wpAny_bind (wpAny_pure (wpAny_bind fin))
          | exact wpAny_bind fin
      | @bare x c ts b₀ su np pos' hds2 l2 hc hsu r ih =>
        intro w
        obtain ⟨b, hb1, yes, no⟩ := w
        refine wpAny_handleBy_cons (codeAny_handlers_test ?_) (by intro q; cases q)
        refine test hc ((PySem.W.exm_one (M := model X.prog X.w) (J3.kIn) LT hb1).here ?_)
        cases b with
        | true =>
          refine codeAny_handlers_suite ?_
          refine HandSPX.lands_againZ f3 fun h4 f4 u4 => ?_
          have J4 : Inv X pins σ' H' { s' with heap := h4 } := J.landed nb f4.1 ((up.trans u3).trans u4) os ag
          obtain ⟨o4, v4, e4, z4, d4⟩ := f4.there
          refine wpAny_mono ((hsu a o4 cls d (X.pn ++ pins) z4.zc ⟨_, d4⟩ ⟨(a, o4), ⟨rfl, v4, d4, z4.2.2 v4 d4⟩, List.mem_cons_self⟩).run [] _ _ H' _ (J4.suite e4 d4 na nL nF) (yes rfl a na)) (fun f s6 sp => ?_) (fun _ _ z => False.elim z)
          cases f with
          | next => obtain ⟨σ6, H6, S6, q6⟩ := sp; exact ⟨_, _, S6.unsuite ok, q6⟩
          | brk => obtain ⟨σ6, H6, S6, q6⟩ := sp; exact ⟨_, _, S6.unsuite ok, q6⟩
          | cont => obtain ⟨σ6, H6, S6, q6⟩ := sp; exact ⟨_, _, S6.unsuite ok, q6⟩
          | ret u => obtain ⟨v6, σ6, H6, S6, r6, q6⟩ := sp; exact ⟨_, _, _, S6.unsuite ok, r6, q6⟩
        | false =>
          show wpAny _ X.A (handleBy (.ref a) X.env hds2) _ _ _
          exact ih (no rfl)
      | @named x n c i ts b₀ su np pos' hds2 l2 hi hln hc hsu r ih =>
        intro w
        obtain ⟨b, hb1, yes, no⟩ := w
        refine wpAny_handleBy_cons (codeAny_handlers_test ?_) (by intro q; cases q)
        refine test hc ((PySem.W.exm_one (M := model X.prog X.w) (J3.kIn) LT hb1).here ?_)
        cases b with
        | true =>
          refine codeAny_handlers_suite_as ?_
          refine HandSPX.lands_againZ f3 fun h4 f4 u4 => ?_
          have J4 : Inv X pins σ' H' { s' with heap := h4 } := J.landed nb f4.1 ((up.trans u3).trans u4) os ag
          obtain ⟨o4, v4, e4, z4, d4⟩ := f4.there
          refine store_ok (X := X.suite a ((a, o4) :: (X.pn ++ pins))) (v := .ref a) (J4.suite e4 d4 na nL nF) hN hi (.inl hln) rfl (fun s5 S5 => ?_) (.inr hln)
          refine wpAny_mono ((hsu a o4 cls d (X.pn ++ pins) z4.zc ⟨_, d4⟩ ⟨(a, o4), ⟨rfl, v4, d4, z4.2.2 v4 d4⟩, List.mem_cons_self⟩).run [] s5 _ H' _ S5 (yes rfl a na)) (fun f s6 sp => ?_) (fun _ _ z => False.elim z)
          have end_ : ∀ {σ6 : St} {H6 : Hp} {Q : Shared → Prop}, Inv (X.suite a ((a, o4) :: (X.pn ++ pins))) [] σ6 H6 s6 → (∀ s7, Inv X pins (σ6.set i none) H6 s7 → Q s7) →
              wpAny (model X.prog X.w) X.A (do bindName X.env n .none; unbindBehindTheSuite X.env n pos') (fun _ s7 => Q s7) X.xe s6 := fun {σ6 H6 Q} S6 hq => gone_ok (S6.unsuite ok) hN hi hln hq
          cases f with
          | next => obtain ⟨σ6, H6, S6, q6⟩ := sp; exact end_ S6 fun s7 J7 => ⟨_, _, J7, q6⟩
          | brk => obtain ⟨σ6, H6, S6, q6⟩ := sp; exact end_ S6 fun s7 J7 => ⟨_, _, J7, q6⟩
          | cont => obtain ⟨σ6, H6, S6, q6⟩ := sp; exact end_ S6 fun s7 J7 => ⟨_, _, J7, q6⟩
          | ret u => obtain ⟨v6, σ6, H6, S6, r6, q6⟩ := sp; exact end_ S6 fun s7 J7 => ⟨_, _, _, J7, r6, q6⟩
        | false =>
          show wpAny _ X.A (handleBy (.ref a) X.env hds2) _ _ _
          exact ih (no rfl)
    exact go hh w
  · cases f with
    | next => obtain ⟨σ', H', J', q⟩ := sp; exact wpAny_execs_nil ⟨σ', H', J'.ofTry ok, q⟩
    | brk => obtain ⟨σ', H', J', q⟩ := sp; exact ⟨σ', H', J'.ofTry ok, q⟩
    | cont => obtain ⟨σ', H', J', q⟩ := sp; exact ⟨σ', H', J'.ofTry ok, q⟩
    | ret u => obtain ⟨v, σ', H', J', r, q⟩ := sp; exact ⟨v, σ', H', J'.ofTry ok, r, q⟩
end
end L2.MW

/-! MW, part U: isinstance of a caught error that has its own dict. -/
namespace L2.MW
open PySem PySem.W PySem.Spec PySem.Calls PyProof.Rows
section
variable {prog : Program} {w : World} {A : Around} {E : Value → Shared → Prop} {s : Shared} {K : Frag} {x D : Addr} {ox : Obj} {od : Option Obj}
theorem fo_data {C : Addr} {name : Str} {a g : Value} (hc : (clsIn K C).isSome = true) (ha : findIn K (.ref C) name = some (some a)) (hg : specialIn K a "__get__" = some (some g)) (ht : takesIn K a = some true) : findObj K C od name = some (.bind g a) := by
  obtain ⟨cd, hc⟩ := Option.isSome_iff_exists.mp hc
  unfold findObj
  rw [hc, Option.bind_some, ha, Option.bind_some]
  simp [hg, ht]
theorem class_of_exc {Q : Option Value → Shared → Prop} (T : ExcC K D) (X : K.In s.heap) (I : InstAt s.heap x ox D od) (h : Q (some (.ref D)) { s with toks := s.toks + 1 }) : wpAny (model prog w) A (getAttr? (.ref x) "__class__") Q E s := by
  have hf : findObj K D od "__class__" = some (.bind (.builtin "getset_descriptor.__get__") (.builtin "object.__class__")) := fo_data (by obtain ⟨cd, hc, _⟩ := any_some T.hd; rw [hc]; rfl) T.ha T.hn T.ht
  obtain ⟨hp, g, d, t, os⟩ := s
  have L0 := I.type (M := model prog w)
  have L1 := looks_findIn (M := model prog w) X T.hg
  have L2 := looks_findIn (M := model prog w) X T.hk
  have L3 := looks_find (M := model prog w) X I hf
  have sub : Looks (model prog w) hp (isInstance (.ref x) (.type "BaseException")) true := L0.andThen (looks_subIn X T.hs)
  have hx0 : (false && onTheHeap (Value.builtin "BaseException.__getattribute__")) = false := rfl
  have hx2 : (Value.builtin "BaseException.__getattribute__" == Value.builtin "object.__getattribute__") = false := by decide +kernel
  have hx1 : (onTheHeap (Value.ref D) && Value.builtin "BaseException.__getattribute__" == Value.builtin "object.__getattribute__") = false := by rw [hx2]; rfl
  unfold getAttr? getAttrBy? getAttrBy
  refine wpAny_bind (wpAny_mkText (wpAny_bind (wpAny_attempt (wpAny_holding (wpAny_bind (L0.at (wpAny_bind (L1.at ?_))))))))
  show wpAny _ _ (if (onTheHeap (Value.ref D) && Value.builtin "BaseException.__getattribute__" == Value.builtin "object.__getattribute__") = true then _ else _) _ _ _
  rw [hx1, if_neg Bool.false_ne_true]
  unfold getAttrByItsOwn hookBefore
  refine wpAny_bind ?_
  rw [if_pos (show onTheHeap (Value.ref D) = true from rfl)]
  refine L2.at ?_
  refine wpAny_bind (wpAny_attempt (wpAny_holding ?_))
  unfold callGetattribute
  rw [hx0, if_neg Bool.false_ne_true]
  unfold boundAndCalled
  rw [PySem.F.excAttr_ValueError.ga.bind (.ref x)]
  refine wpAny_bind (wpAny_pure ?_)
  show wpAny _ _ (call (.builtin "BaseException.__getattribute__") [.ref x, .str "__class__" t]) _ _ _
  refine wpAny_call (codeAny_call_builtin PySem.F.excAttr_ValueError.ga.plain PySem.F.entry_bexc_ga ?_)
  refine @check_slot (model prog w) _ _ ⟨hp, g, d, t + 1, os⟩ "BaseException.__getattribute__" "BaseException" "__getattribute__" (.ref x) [.str "__class__" t] [] _ (by decide +kernel) (by decide +kernel) sub (PySem.F.args_bexc_ga (.ref x) (.str "__class__" t)) ?_
  unfold Builtin.«object.__getattribute__»
  refine wpAny_bind (wpAny_of_eq (a := ((Value.ref x : Value), [Value.str "__class__" t])) (by first | rfl | (simp only [slotArgs]; rfl)) ?_)
  refine wpAny_bind (wpAny_pure (wpAny_bind (L0.at (wpAny_bind (L3.at ?_)))))
  show wpAny _ _ (holding [Value.builtin "object.__class__"] (call (.builtin "getset_descriptor.__get__") [.builtin "object.__class__", .ref x, .ref D]) >>= ret) _ _ _
  refine wpAny_bind (wpAny_holding (wpAny_call (class_get (s := ⟨hp, g, d, t + 1, os⟩) (ox := ox) (od := od) X I T.hm ?_)))
  refine wpAny_pure ?_
  show wpAny _ _ (handedOut (.ref D)) _ _ _
  rw [handedOut_of (v := .ref D) rfl]
  first
    | exact wpAny_pure (wpAny_pure h)
    | exact wpAny_pure h
    | exact wpAny_pure (wpAny_bind (wpAny_pure (wpAny_pure h)))
theorem kitx_od (T : ExcC K D) : KitX K (.ref x) (.ref D) (fun h => ∃ od, InstAt h x ox D od) where
  ty := fun _ _ _ ⟨_, I⟩ => I.type
  it := fun _ _ X _ => by
    obtain ⟨cd, hc, _⟩ := any_some T.hd
    unfold clsIn at hc
    split at hc
    · rename_i ho
      intro A' Q' E' s' k q
      unfold isType loadHead
      exact wpAny_bind (wpAny_loadPart (k _ _ (X _ _ ho)) (wpAny_pure q))
    · cases hc
  ne := (PySem.W.handS_kitx_exc (x := x) (ox := ox) T.hg T.hk T.hs T.hd T.ha T.hn T.ht T.hm).ne
  ca := fun X ⟨_, I⟩ k => class_of_exc T X I k
end
end L2.MW
namespace L2
open PySem PySem.Spec PyProof.Rows
theorem call_isEd {X : Cx} {a D dd : Addr} {oe : Obj} {pn : List (Addr × Obj)} (C : ExcC X.K D) (hz : Zc (.ref D) (some dd) oe) (hf : ∃ vs, oe.data = .fields vs) :
    CallR (X.suite a ((a, oe) :: pn)) (.builtin "isinstance") (fun xs H Q => (∃ fs, H dd = some (.xd fs)) ∧ rIsE X.K D a xs H Q) := by
  intro pins s σ H xs us Q I r h
  obtain ⟨⟨fs, hfs⟩, c, cv, b, rfl, hcv, e, q⟩ := h
  cases r with
  | cons rx rr =>
    cases rr with
    | cons rt rr =>
      cases rr
      cases rx
      have ec := hcv _ rt
      subst ec
      obtain ⟨hget, _⟩ := I.pin (a, oe) (List.mem_append.mpr (.inl List.mem_cons_self))
      obtain ⟨vs, hv⟩ := hf
      obtain ⟨mA, hns, _⟩ := (show ObjOk X.prog X.w H s.heap dd (.xd fs) from I.hok dd _ hfs)
      obtain ⟨od, ho, _⟩ := lookIn_ns hns
      have J : PySem.W.InstAt s.heap a oe D (some od) := ⟨hget, hz.1, by unfold PySem.W.notCls; rw [hv] <;> rfl, by rw [hz.2]; exact ho⟩
      exact PySem.W.kia_one (MW.kitx_od C) I.kIn ⟨_, J⟩ e (fun z => nomatch z) fun tk => ⟨.bl b, H, I.kept (t' := tk) fun _ _ z => z, rfl, q⟩
end L2

/-! MW, part V: raise of own classes with fields; try over data; the error in a suite. -/
namespace L2.MW
open PySem PySem.Spec PyProof.Rows

/-! ### what the class must say, as a test -/
def oexB (K : PySem.W.Frag) (C : Addr) : Bool := (match K.lookup C with
  | some ⟨.type "type", _, .cls cd, sl⟩ => (match cd.mro, sl.toList with
    | .ref C' :: bm, [_, _, _, _, some (.builtin n), _] => C' == C && (n == "ValueError.__new__" && (!cd.hasDel && (cd.hasDict && PySem.HandSPX.refsVE bm)))
    | _, _ => false)
  | _ => false) && (decide (PySem.W.findIn K (.ref C) "__setattr__" = some (some (.builtin "object.__setattr__"))) && (decide (PySem.W.subIn K (.ref C) (.type "BaseException") = some true) && (decide (PySem.W.typeIn K (.ref C) = some (.type "type")) && PySem.W.keepIn K (.ref C))))
theorem oexB_ok {K : PySem.W.Frag} {C : Addr} (h : oexB K C = true) : OexC K C := by
  unfold oexB at h
  simp only [Bool.and_eq_true, decide_eq_true_eq] at h
  obtain ⟨h0, h1, h2, h3, h4⟩ := h
  refine ⟨?_, h1, h2, h3, h4⟩
  split at h0
  · rename_i dd cd sl ho
    split at h0
    · rename_i C' bm k0 k1 k2 k3 n k5 hm hs
      simp only [Bool.and_eq_true, beq_iff_eq, Bool.not_eq_true'] at h0
      obtain ⟨e1, e2, hdel, hdict, ht⟩ := h0
      subst e1 e2
      obtain ⟨nm, bs, mro, ns, qn, hd, sn, sub, ab, col, del⟩ := cd
      dsimp only at hm hdel hdict
      subst hm hdel hdict
      have hsl : sl = #[k0, k1, k2, k3, some (.builtin "ValueError.__new__"), k5] := by
        obtain ⟨l⟩ := sl
        simp only at hs
        rw [hs]
      subst hsl
      exact ⟨nm, qn, ns, bs, bm, sn, sub, ab, col, dd, k0, k1, k2, k3, k5, ho, ht⟩
    · cases h0
  · cases h0
/-- isinstance asks it rightly -/
def excCB (K : PySem.W.Frag) (D : Addr) : Bool := decide (PySem.W.findIn K (.ref D) "__getattribute__" = some (some (.builtin "BaseException.__getattribute__"))) && (decide (PySem.W.findIn K (.ref D) "__getattr__" = some none) && (decide (PySem.W.subIn K (.ref D) (.type "BaseException") = some true) && (PySem.W.hasDictIn K D &&
  (decide (PySem.W.findIn K (.ref D) "__class__" = some (some (.builtin "object.__class__"))) && (decide (PySem.W.specialIn K (.builtin "object.__class__") "__get__" = some (some (.builtin "getset_descriptor.__get__"))) && (decide (PySem.W.takesIn K (.builtin "object.__class__") = some true) && decide (PySem.W.mroIn K D (.type "object") = some true)))))))
theorem excCB_ok {K : PySem.W.Frag} {D : Addr} (h : excCB K D = true) : ExcC K D := by
  unfold excCB at h
  simp only [Bool.and_eq_true, decide_eq_true_eq] at h
  obtain ⟨h1, h2, h3, h4, h5, h6, h7, h8⟩ := h
  exact ⟨h1, h2, h3, h4, h5, h6, h7, h8⟩
/-- the fields that it stores are no names of the class; its __init__ is found -/
def xfB (K : PySem.W.Frag) (c : String) (fs : List Str) : Bool := oexB K (He.ga K (Str.ofString c)) && (excCB K (He.ga K (Str.ofString c)) && (fs.all (fun f => decide (PySem.W.findIn K (.ref (He.ga K (Str.ofString c))) f = some none)) &&
  (decide (PySem.W.findIn K (.ref (He.ga K (Str.ofString c))) "__init__" = some (some (.ref (He.ma K (He.ga K (Str.ofString c)) "__init__")))) && decide (PySem.W.typeIn K (.ref (He.ma K (He.ga K (Str.ofString c)) "__init__")) = some (.type "function")))))
structure XF (K : PySem.W.Frag) (c : String) (fs : List Str) : Prop where
  ok : xfB K c fs = true
theorem XF.parts {K : PySem.W.Frag} {c : String} {fs : List Str} (h : XF K c fs) : OexC K (He.ga K (Str.ofString c)) ∧ ExcC K (He.ga K (Str.ofString c)) ∧ (∀ f ∈ fs, PySem.W.findIn K (.ref (He.ga K (Str.ofString c))) f = some none) ∧
    PySem.W.findIn K (.ref (He.ga K (Str.ofString c))) "__init__" = some (some (.ref (He.ma K (He.ga K (Str.ofString c)) "__init__"))) ∧ PySem.W.typeIn K (.ref (He.ma K (He.ga K (Str.ofString c)) "__init__")) = some (.type "function") := by
  have h := h.ok
  unfold xfB at h
  simp only [Bool.and_eq_true, List.all_eq_true, decide_eq_true_eq] at h
  exact ⟨oexB_ok h.1, excCB_ok h.2.1, h.2.2.1, h.2.2.2.1, h.2.2.2.2⟩

/-! ### making -/
/-- what such an __init__ does: its values into the fields -/
def spX (n : Nat) (fs : List Str) (C : Addr) : Sp := fun vs H Q _ => ∃ a us, vs = .ref a :: us ∧ us.length = n ∧ fs.length = n ∧ H a = some (exo a C none) ∧ ∀ dx, H dx = none → dx ≠ a → Q .non (upd (upd H dx (exd dx (fs.zip us).reverse)) a (exo a C (some dx)))
structure ExK (P : Program) (w : World) (K : PySem.W.Frag) (mg : Str → Option Value) (base : Heap) (c : String) (fs : List Str) : Prop where
  ex : ∃ fd ps, FnOk P w K mg base CX0 1 (He.ma K (He.ga K (Str.ofString c)) "__init__") fd ps (spX fs.length fs (He.ga K (Str.ofString c))) ∧ Binds K fd ps [] ∧ mg (Str.ofString c) = some (.ref (He.ga K (Str.ofString c)))
  xf : XF K c fs
theorem ost1 {K : PySem.W.Frag} {f1 : Str} {C : Addr} {D : Ends} {a : Addr} {v : V} {H : Hp} {Q : VK} (T : OexC K C) (no : PySem.W.findIn K (.ref C) f1 = some none) (ea : H a = some (exo a C none)) (q : ∀ dx, H dx = none → dx ≠ a → Q .non (upd (upd H dx (exd dx [(f1, v)])) a (exo a C (some dx)))) (hD : ∀ σ H, Q .non H → D.nx σ H) :
    tOst K f1 (tVar 0) (tVar 1) D (start ["self", f1] [.ref a, v]) H := ⟨v, rfl, .ref a, rfl, a, C, rfl, T, no, .inl ⟨ea, fun dx n ne => hD _ _ (q dx n ne)⟩⟩
theorem upd_swap {H : Hp} {a d : Addr} {x y z : HO} (h : d ≠ a) : upd (upd (upd H d x) a y) d z = upd (upd H d z) a y := by
  funext b
  by_cases h1 : b = d
  · subst h1
    rw [upd_same, upd_ne h, upd_same]
  · rw [upd_ne h1]
    by_cases h2 : b = a
    · subst h2; rw [upd_same, upd_same]
    · rw [upd_ne h2, upd_ne h2, upd_ne h1, upd_ne h1]
/-- the readings of the two forms of such an __init__ -/
theorem x1_read {K : PySem.W.Frag} {f1 p1 : Str} {C : Addr} {vs : List V} {H : Hp} {Q : VK} {E : XK} (T : OexC K C) (no : ∀ f ∈ [f1], PySem.W.findIn K (.ref C) f = some none) (h : spX 1 [f1] C vs H Q E) :
    tOst K f1 (tVar 0) (tVar 1) { nx := fun _ H' => Q .non H', rt := Q } (start ["self", p1] vs) H := by
  obtain ⟨a, us, rfl, hl, _, ea, q⟩ := h
  match us, hl with
  | [v], _ => exact ⟨v, rfl, .ref a, rfl, a, C, rfl, T, no f1 List.mem_cons_self, .inl ⟨ea, fun dx n ne => q dx n ne⟩⟩
theorem x2_read {K : PySem.W.Frag} {f1 f2 p1 p2 : Str} {C : Addr} {vs : List V} {H : Hp} {Q : VK} {E : XK} (T : OexC K C) (no : ∀ f ∈ [f1, f2], PySem.W.findIn K (.ref C) f = some none) (h : spX 2 [f1, f2] C vs H Q E) :
    tSeq (tOst K f1 (tVar 0) (tVar 1)) (tOst K f2 (tVar 0) (tVar 2)) { nx := fun _ H' => Q .non H', rt := Q } (start ["self", p1, p2] vs) H := by
  obtain ⟨a, us, rfl, hl, _, ea, q⟩ := h
  match us, hl with
  | [v, u], _ =>
    refine ⟨v, rfl, .ref a, rfl, a, C, rfl, T, no f1 List.mem_cons_self, .inl ⟨ea, fun dx n ne => ?_⟩⟩
    refine ⟨u, rfl, .ref a, rfl, a, C, rfl, T, no f2 (List.mem_cons_of_mem _ List.mem_cons_self), .inr ⟨dx, [(f1, v)], upd_same, by rw [upd_ne ne, upd_same], Nat.le_of_ble_eq_true rfl, ?_⟩⟩
    have := q dx n ne
    rw [upd_swap ne]
    exact this
/-- a new error of an own class, its context told -/
theorem pmk_new {X : Cx} {CX : CXT} {x : Str} {e : Expr} {es : List Expr} {ta : TA} {p pos : Pos} {C fI : Addr} {k : Nat} {fd : FuncData} {ps : List Str} {sp : Sp} (T : OexC X.K C) (iC : PySem.W.findIn X.K (.ref C) "__init__" = some (some (.ref fI))) (tI : PySem.W.typeIn X.K (.ref fI) = some (.type "function"))
    (F1 : FnOk X.prog X.w X.K X.mg X.base CX k fI fd ps sp) (hr : Room (k + 1) X.A) (hb : Binds X.K fd ps []) (hx : Passes CX X (fun _ _ _ => False)) (hg : Gl X x) (hm : X.mg x = some (.ref C)) (ha : PA X (e :: es) ta)
    (hdb : (x == ("__debug__" : Str)) = false) (he : starEach (e :: es) X.env = (false, eval e X.env) :: starEach es X.env) (hpl : (backTo pos (starEach es X.env)).any (·.1) = false) :
    L2N.PMk X (.Call (.Name x p) (e :: es) [] pos) (tMkO C sp [] ta) := by
  intro pins s σ H Q I h
  obtain ⟨nm, q, N, bs, bm, sn, sub, ab, col, dd, k0, k1, k2, k3, k5, hC, hbm⟩ := T.cls
  refine wpAny_Call_Name_kw (ld_glob I hg hm ?_ hdb)
  refine PySem.W.callWith_K (h₀ := X.base) I.ok.mod.kin T.kC (thn (ha.run pos pins s σ H _ I h) fun us s1 ⟨vs, H1, I1, r1, hz, q1⟩ => ⟨I1.kIn, ?_⟩) he hpl
  show wpAny _ _ (call (.ref C) us) _ _ _
  obtain ⟨hp, g, dr, tk, os⟩ := s1
  have hsz : hp.objs.size ≤ hp.objs.size + 1 := Nat.le_succ _
  have hq := q1 (hp.objs.size + 1) (I1.hok.fresh hsz)
  have kk : ∀ b o, hp.get? b = some o → ((hp.push (PySem.W.kdv_tup us)).push (PySem.HandSPX.excO C hp.objs.size)).get? b = some o := fun b o e => Heap.get?_push_of_some _ (Heap.get?_push_of_some _ e)
  have hget : ((hp.push (PySem.W.kdv_tup us)).push (PySem.HandSPX.excO C hp.objs.size)).get? (hp.objs.size + 1) = some (PySem.HandSPX.excO C hp.objs.size) := by heap_get
  have I2 : Inv X pins σ (upd H1 (hp.objs.size + 1) (exo (hp.objs.size + 1) C none)) ⟨(hp.push (PySem.W.kdv_tup us)).push (PySem.HandSPX.excO C hp.objs.size), g, dr, tk, os⟩ := I1.laid (t' := tk) kk hsz (exo_ok hget)
  rw [List.append_nil] at hq
  have r2 : Vals (V.ref (hp.objs.size + 1) :: vs) (Value.ref (hp.objs.size + 1) :: us) := .cons rfl r1
  have hl : (Value.ref (hp.objs.size + 1) :: us ++ []).length = ps.length := by
    rw [List.append_nil, ← r2.length]
    exact F1.len _ _ _ _ hq
  have hus : us.length ≤ sizeLine := by
    rw [← Paired.length r1, sizeLine_eq]
    omega
  have b2 := hb _ (Value.ref (hp.objs.size + 1) :: us) I2.kIn hl
  rw [List.append_nil] at b2
  refine wpAny_call (PySem.HandSPX.call_own F.excBase_ValueError (fun Y => PySem.HandSPX.refsVE_contains Y bm hbm) (I1.kIn _ _ hC) (PySem.W.looks_findIn I1.kIn iC) (fun self => PySem.W.bind_fn I1.kIn self tI) hus
    (codeAny_mono (F1.run _ X.stack _ _ ⟨Value.ref (hp.objs.size + 1) :: us, []⟩ _ _ _ (fun _ _ _ => False) (hr.make C us []) (I2.env0.make C us []) b2 r2 hq) fun r s' hq' => ?_))
  cases r with
  | error er => exact hx pins σ _ _ er s' I2 hq'
  | ok fl =>
    cases fl with
    | ret u =>
      obtain ⟨v, H2, os2, bare2, un2, hok2, rv, ev, d, fs, ea, ed, hd1, q2⟩ := hq'
      subst ev
      obtain ⟨h2, g2, d2, t2, os'⟩ := s'
      obtain ⟨t0, G, J, kG, ge, hoe, na⟩ := mk_end0 (d2 := d2) (t2 := t2) I1 hsz kk un2 hok2 os2 bare2 ea ed hd1
      exact ⟨rv, hp.objs.size + 1, _, _, ⟨G, g2, d2, t2, os'⟩, _, .ref C, some d, rfl, J, kG, ge, hoe, ⟨rfl, rfl, fun vs hv => by cases hv; rfl⟩, rfl, rfl, na, rfl, bare2, raises_own T.exC T.tyC, q2⟩
    | next => exact False.elim hq'
    | brk => exact False.elim hq'
    | cont => exact False.elim hq'
section
variable {X : Cx} {W : WX} {pos p pos' : Pos} {e : Expr} {es : List Expr} {ts : DA} {c : String} {fs : List Str}
def sRaise (c : String) (fs : List Str) (ts : DA) : DS := fun E σ h => ts σ h (E.xx σ) fun ds h1 => ds.length = fs.length ∧ fs.length ≤ 1000 ∧ E.ex ⟨c, (fs.zip ds).reverse⟩ σ h1
theorem DFs.zip {K : PySem.W.Frag} {ρ : List Addr} {H : Hp} : ∀ {fs : List Str} {ds : List D} {vs : List V}, DVs K ρ H ds vs → DFs K ρ H (fs.zip ds) (fs.zip vs)
  | [], _, _, _ => rfl
  | f :: fs, [], _, h => by rw [show _ = [] from h]; rfl
  | f :: fs, d :: ds, _, ⟨v, r, e, h1, h2⟩ => by subst e; exact ⟨v, _, rfl, h1, DFs.zip h2⟩
theorem DFs.app {K : PySem.W.Frag} {ρ : List Addr} {H : Hp} : ∀ {a b : List (Str × D)} {x y : List (Str × V)}, DFs K ρ H a x → DFs K ρ H b y → DFs K ρ H (a ++ b) (x ++ y)
  | [], _, _, _, h, q => by rw [show _ = [] from h]; exact q
  | p :: a, _, _, _, ⟨v, r, e, h1, h2⟩, q => by subst e; exact ⟨v, r ++ _, rfl, h1, DFs.app h2 q⟩
theorem DFs.rev {K : PySem.W.Frag} {ρ : List Addr} {H : Hp} : ∀ {a : List (Str × D)} {x : List (Str × V)}, DFs K ρ H a x → DFs K ρ H a.reverse x.reverse
  | [], _, h => by rw [show _ = [] from h]; rfl
  | p :: a, _, ⟨v, r, e, h1, h2⟩ => by
    subst e
    rw [List.reverse_cons, List.reverse_cons]
    exact DFs.app (DFs.rev h2) ⟨v, [], rfl, h1, rfl⟩
theorem s1_raise (F : ExK X.prog X.w X.K X.mg X.base c fs) (hc : X.calm = true) (tk : L2N.Takes X W) (hr : Room 2 X.A) (ha : SA X W (e :: es) ts) (hg : Gl X (Str.ofString c) := by rfl) (hdb : ((Str.ofString c) == ("__debug__" : Str)) = false := by decide)
    (he : starEach (e :: es) X.env = (false, eval e X.env) :: starEach es X.env := by rfl) (hpl : (backTo pos (starEach es X.env)).any (·.1) = false := by rfl) :
    S1 X W (.Raise (some (.Call (.Name (Str.ofString c) p) (e :: es) [] pos)) none pos') (sRaise c fs ts) := by
  obtain ⟨fd, ps, F1, hb, hm⟩ := F.ex
  obtain ⟨T, _, _, iC, tI⟩ := F.xf.parts
  refine PS.imp (L2N.ps_raise hc tk (pmk_new T iC tI F1 hr hb pass0 hg hm ha hdb he hpl)) fun Dn σ H w => ?_
  obtain ⟨ρ0, H0, ρ, σd, h, E, e0, hR, sr, w, k⟩ := w
  refine lA.go hR sr w (k.xw e0) fun ρ1 ds h1 vs H1 e1 hr1 sr1 kx1 dvs q => ?_
  obtain ⟨ql, qb, q⟩ := q
  have hl := dvs.length
  refine ⟨by omega, fun a na => ?_⟩
  rw [List.append_nil]
  refine ⟨a, vs, rfl, by omega, rfl, upd_same, fun dx nd ne => ⟨rfl, dx, (fs.zip vs).reverse, upd_same, ?_, ?_, ?_⟩⟩
  · rw [upd_ne ne, upd_same]
  · rw [upd_ne ne] at nd; exact nd
  · have nd' : H1 dx = none := by rw [upd_ne ne] at nd; exact nd
    have eH : upd (del (upd (upd (upd H1 a (exo a (He.ga X.K (Str.ofString c)) none)) dx (exd dx (fs.zip vs).reverse)) a (exo a (He.ga X.K (Str.ofString c)) (some dx))) a) dx (.xd (fs.zip vs).reverse) = upd H1 dx (.xd (fs.zip vs).reverse) := by
      funext b
      by_cases h1 : b = dx
      · subst h1; rw [upd_same, upd_same]
      · rw [upd_ne h1, upd_ne h1]
        by_cases h2 : b = a
        · subst h2; rw [del_same]; exact na.symm
        · rw [del_ne h2, upd_ne h2, upd_ne h1, upd_ne h2]
    rw [eH]
    have ee : Ext ρ1 H1 ρ1 (upd H1 dx (.xd (fs.zip vs).reverse)) := .new1 nd'
    exact k.ex ρ1 ⟨c, (fs.zip ds).reverse⟩ σd h1 _ (some dx) σ _ ((e0.trans e1).trans ee) (hr1.new1 nd') (sr1.ext ee) ⟨rfl, dx, _, rfl, hr1.out nd', upd_same, DFs.ext ee _ _ (DFs.rev (DFs.zip dvs))⟩ q
end

/-! ### try over data -/
/-- which clause takes which class -/
structure ExmF (K : PySem.W.Frag) (tbl : List (String × D × Bool)) : Prop where
  ok : ∀ t ∈ tbl, PySem.W.exmOne K (.ref (He.ga K (Str.ofString t.1))) (clsVal K t.2.1) = some t.2.2 ∧ ExcC K (He.ga K (Str.ofString t.1))
abbrev DCl := D × Option Nat × (Addr → String → Addr → DS)
def goneD (i : Nat) (E : DEnds) : DEnds := { nx := fun σ h => E.nx (σ.set i none) h, rt := E.rt, bk := fun σ h => E.bk (σ.set i none) h, ct := fun σ h => E.ct (σ.set i none) h, n0 := E.n0 }
def bareD (E : DEnds) : DEnds := { E with ex := fun _ _ _ => False }
def runD (o : Option Nat) (t : Addr → String → Addr → DS) (E : DEnds) (x : Exc) (σ : DSt) (h : DHp) : Prop := ∀ a dd, match o with
  | none => t a x.cls dd (bareD E) σ h
  | some i => t a x.cls dd (goneD i E) (σ.set i (some (.exn a x.cls dd x.fs))) h
def dispD (tbl : List (String × D × Bool)) (E : DEnds) (x : Exc) (σ : DSt) (h : DHp) : List DCl → Prop
  | [] => E.ex x σ h
  | (c, o, t) :: r => ∃ b, (x.cls, c, b) ∈ tbl ∧ (b = true → runD o t E x σ h) ∧ (b = false → dispD tbl E x σ h r)
def sTry (tbl : List (String × D × Bool)) (t : DS) (cl : List DCl) : DS := fun E σ h => t { E with ex := fun x σ' h' => dispD tbl E x σ' h' cl } σ h
theorem SR.unset {K : PySem.W.Frag} {ρ : List Addr} {H : Hp} {σd : DSt} {σ : St} (r : SR K ρ H σd σ) (i : Nat) : SR K ρ H (σd.set i none) (σ.set i none) := by
  refine ⟨by rw [List.length_set, List.length_set]; exact r.len, fun j d h => ?_⟩
  by_cases e : i = j
  · subst e
    have hl : i < σd.length := by have := (List.getElem?_eq_some_iff.mp h).1; rwa [List.length_set] at this
    rw [List.getElem?_set_self hl] at h
    cases h
  · rw [List.getElem?_set_ne e] at h ⊢
    exact r.at_ j d h
/-- a clause's reading, as the lower layer's -/
def lowT (K : PySem.W.Frag) (cs : List String) (t : Addr → String → Addr → DS) (a : Addr) (cls : Value) (d : Option Addr) : TS := fun Dn σ H => ∃ c dd, c ∈ cs ∧ ExcC K (He.ga K (Str.ofString c)) ∧ cls = .ref (He.ga K (Str.ofString c)) ∧ d = some dd ∧ lS K W0 (t a c dd) Dn σ H
def lowC (K : PySem.W.Frag) (cs : List String) (cl : DCl) : Cl := (clsVal K cl.1, cl.2.1, lowT K cs cl.2.2)
def clss (tbl : List (String × D × Bool)) : List String := tbl.map (·.1)
theorem EW.gone {K : PySem.W.Frag} {W : WX} {ρ0 : List Addr} {H0 : Hp} {E : DEnds} {Dn : Ends} (k : EW K W ρ0 H0 E Dn) (i : Nat) : EW K W0 ρ0 H0 (goneD i E) (goneE i Dn) :=
  ⟨k.n0, fun ρ σd h σ H e hr sr q => k.nx ρ _ h _ H e hr (sr.unset i) q, fun ρ σd h σ H e hr sr q => k.bk ρ _ h _ H e hr (sr.unset i) q, fun ρ σd h σ H e hr sr q => k.ct ρ _ h _ H e hr (sr.unset i) q, k.rt, fun _ _ _ _ _ _ _ _ _ _ _ _ z => z.elim⟩
theorem EW.bare {K : PySem.W.Frag} {W : WX} {ρ0 : List Addr} {H0 : Hp} {E : DEnds} {Dn : Ends} (k : EW K W ρ0 H0 E Dn) : EW K W0 ρ0 H0 (bareD E) Dn := ⟨k.n0, k.nx, k.bk, k.ct, k.rt, fun _ _ _ _ _ _ _ _ _ _ _ _ z => z.elim⟩
theorem disp_low {K : PySem.W.Frag} {tbl : List (String × D × Bool)} (T : ExmF K tbl) {W : WX} {ρ0 ρ : List Addr} {H0 H : Hp} {E : DEnds} {Dn : Ends} (k : EW K W ρ0 H0 E Dn) {σd : DSt} {σ : St} {h : DHp} {x : Exc} {cls : Value} {d : Option Addr}
    (e : Ext ρ0 H0 ρ H) (hr : HR K ρ h H) (sr : SR K ρ H σd σ) (ea : ExcAt K ρ H x cls d) : ∀ cl : List DCl, dispD tbl E x σd h cl → wCl K W Dn (cl.map (lowC K (clss tbl))) cls d σ H
  | [], w => k.ex ρ x σd h cls d σ H e hr sr ea w
  | (c, o, t) :: r, ⟨b, hb, yes, no⟩ => by
    refine ⟨b, by rw [ea.1]; exact (T.ok _ hb).1, fun hb1 a na => ?_, fun hb0 => disp_low T k e hr sr ea r (no hb0)⟩
    have y := yes hb1
    have xc := (T.ok _ hb).2
    have xm : x.cls ∈ clss tbl := List.mem_map.mpr ⟨_, hb, rfl⟩
    obtain ⟨e1, dd, ws, e2, n, hH, dfs⟩ := ea
    have y2 := y a dd
    cases o with
    | none => exact ⟨x.cls, dd, xm, xc, e1, e2, ρ0, H0, ρ, σd, h, _, e, hr, sr, y2, k.bare⟩
    | some i => exact ⟨x.cls, dd, xm, xc, e1, e2, ρ0, H0, ρ, _, h, _, e, hr, sr.set (d := .exn a x.cls dd x.fs) ⟨rfl, ws, n, hH, dfs⟩, y2, k.gone i⟩
/-- a suite over data -/
def SuD (X : Cx) (cs : List String) (su : List Stmt) (t : Addr → String → Addr → DS) : Prop := ∀ (a : Addr) (oe : Obj) (c : String) (dd : Addr) (pn : List (Addr × Obj)), c ∈ cs → ExcC X.K (He.ga X.K (Str.ofString c)) → Zc (.ref (He.ga X.K (Str.ofString c))) (some dd) oe → (∃ vs, oe.data = .fields vs) → L2H.HotC (X.suite a ((a, oe) :: pn)) → SS (X.suite a ((a, oe) :: pn)) W0 su (t a c dd)
theorem SuD.low {X : Cx} {cs : List String} {su : List Stmt} {t : Addr → String → Addr → DS} (h : SuD X cs su t) : SuOk X su (lowT X.K cs t) := fun a oe cls d pn hz hf hot => ⟨fun pins s σ H D I w => by
  obtain ⟨c, dd, hm, hk, rfl, rfl, w⟩ := w
  exact (h a oe c dd pn hm hk hz hf hot).run pins s σ H D I w⟩
inductive ClD (X : Cx) (cs : List String) : List ExceptHandler → List DCl → Prop
  | nil : ClD X cs [] []
  | bare {x : Str} {c : D} {t : Addr → String → Addr → DS} {b₀ : Stmt} {su : List Stmt} {np pos' : Pos} {hds : List ExceptHandler} {l : List DCl} (hc : Names X x (clsVal X.K c)) (hsu : SuD X cs (b₀ :: su) t) (r : ClD X cs hds l) :
      ClD X cs (.ExceptHandler (some (.Name x np)) none (b₀ :: su) pos' :: hds) ((c, none, t) :: l)
  | named {x n : Str} {c : D} {i : Nat} {t : Addr → String → Addr → DS} {b₀ : Stmt} {su : List Stmt} {np pos' : Pos} {hds : List ExceptHandler} {l : List DCl} (hi : X.N[i]? = some n) (hln : X.env.kindOf n = some .local) (hc : Names X x (clsVal X.K c)) (hsu : SuD X cs (b₀ :: su) t) (r : ClD X cs hds l) :
      ClD X cs (.ExceptHandler (some (.Name x np)) (some n) (b₀ :: su) pos' :: hds) ((c, some i, t) :: l)
theorem ClD.low {X : Cx} {cs : List String} {hds : List ExceptHandler} {l : List DCl} (h : ClD X cs hds l) : ClOk X hds (l.map (lowC X.K cs)) := by
  induction h with
  | nil => exact .nil
  | bare hc hsu r ih => exact .bare hc hsu.low ih
  | named hi hln hc hsu r ih => exact .named hi hln hc hsu.low ih
theorem s1_try {X : Cx} {W : WX} {body : List Stmt} {hd0 : ExceptHandler} {hds : List ExceptHandler} {cl : List DCl} {pos : Pos} {t : DS} {tbl : List (String × D × Bool)} (T : ExmF X.K tbl) (hN : X.N.Nodup) (tk : L2N.Takes X W)
    (hb : ∀ (W : WX) (pn : List (Addr × Obj)) (xe : Value → Shared → Prop), L2N.Takes (X.tr pn xe) W → PassesOwn (model X.prog X.w) X.A X.env xe → SS (X.tr pn xe) W body t)
    (hh : ClD X (clss tbl) (hd0 :: hds) cl) (hs : X.stack = X.env :: X.outer := by rfl) (hf : X.env.frame = some X.env.locals := by rfl) : S1 X W (.Try body (hd0 :: hds) [] [] pos) (sTry tbl t cl) :=
  PS.imp (ps_try_cl (tb := fun W => lS X.K W t) hs hf hN tk hb hh.low) fun Dn σ H w => by
    obtain ⟨ρ0, H0, ρ, σd, h, E, e0, hr, sr, w, k⟩ := w
    exact ⟨ρ0, H0, ρ, σd, h, _, e0, hr, sr, w, ⟨k.n0, k.nx, k.bk, k.ct, k.rt, fun ρ' x σd' h' cls d σ' H' e' hr' sr' ea' z => disp_low T k e' hr' sr' ea' cl z⟩⟩

/-! ### the error in a suite -/
structure KitE (K : PySem.W.Frag) (tbl : List (String × D × Bool)) : Prop where
  ok : ∀ t ∈ tbl, PySem.W.kitOne K (.ref (He.ga K (Str.ofString t.1))) (clsVal K t.2.1) = some t.2.2
section
variable {X : Cx} {W : WX} {a dd : Addr} {oe : Obj} {c : String} {pn : List (Addr × Obj)} {pos p : Pos} {e1 e2 : Expr} {d1 d2 : DE}
def nIsE (tbl : List (String × D × Bool)) (a : Addr) (c : String) (dd : Addr) : DN := fun ds h Q => ∃ fs t b, ds = [.exn a c dd fs, t] ∧ isClsD t ∧ (c, t, b) ∈ tbl ∧ Q (.bl b) h
theorem se_isE {es : List Expr} {ts : DA} {tbl : List (String × D × Bool)} (T : KitE X.K tbl) (hk : ExcC X.K (He.ga X.K (Str.ofString c))) (hz : Zc (.ref (He.ga X.K (Str.ofString c))) (some dd) oe) (hf : ∃ vs, oe.data = .fields vs) (hm : X.mg "isinstance" = none) (ha : SA (X.suite a ((a, oe) :: pn)) W (e1 :: es) ts) (hg : Gl X "isinstance" := by rfl)
    (he : starEach (e1 :: es) X.env = (false, eval e1 X.env) :: starEach es X.env := by rfl) (hpl : (backTo pos (starEach es X.env)).any (·.1) = false := by rfl) :
    SE (X.suite a ((a, oe) :: pn)) W (.Call (.Name "isinstance" p) (e1 :: es) [] pos) (dCB (nIsE tbl a c dd) ts) := by
  refine se_cb (X := X.suite a ((a, oe) :: pn)) (call_isEd hk hz hf) (fun ρ h H xs vs Qd Q hr dvs w k => ?_) hg hm (by decide +kernel) ha (he := he) (hpl := hpl)
  obtain ⟨fs, t, b, rfl, ht, hb, q⟩ := w
  obtain ⟨v, v', rfl, dv1, dv2⟩ := dvs.bi
  obtain ⟨rfl, ws, n, hH, dfs⟩ := dv1
  refine ⟨⟨ws, hH⟩, v', clsVal X.K t, b, rfl, fun u r => ?_, T.ok _ hb, k ρ (.bl b) h _ H .refl hr rfl q⟩
  cases t with
  | ty n => have z : v' = .ty n := dv2; subst z; exact r
  | cls n => have z : v' = .ref _ := dv2; subst z; exact r
  | _ => exact ht.elim
/-- e.f -/
structure XN (K : PySem.W.Frag) (cs : List String) (f : Str) : Prop where
  ok : ∀ c ∈ cs, PySem.W.findIn K (.ref (He.ga K (Str.ofString c))) f = some none
def nExF (a : Addr) (c : String) (dd : Addr) (f : Str) (x : D) (h : DHp) (Q : DK) : Prop := ∃ fs d, x = .exn a c dd fs ∧ fs.lookup f = some d ∧ Q d h
def dExF (a : Addr) (c : String) (dd : Addr) (f : Str) (da : DE) : DE := fun σ h X Q => da σ h X fun x h1 => nExF a c dd f x h1 Q
theorem se_exf {f : Str} {cs : List String} (N : XN X.K cs f) (hc : c ∈ cs) (hk : ExcC X.K (He.ga X.K (Str.ofString c))) (hz : Zc (.ref (He.ga X.K (Str.ofString c))) (some dd) oe) (hf : ∃ vs, oe.data = .fields vs)
    (ha : SE (X.suite a ((a, oe) :: pn)) W e1 d1) (hb : attributeBase e1 f X.env (eval e1 X.env) = eval e1 X.env := by rfl) : SE (X.suite a ((a, oe) :: pn)) W (.Attribute e1 f pos) (dExF a c dd f d1) := by
  refine ⟨fun pins s σ H Q I w => ?_⟩
  obtain ⟨ρ, σd, h, Xd, Qd, hr, sr, w, kx, k⟩ := w
  refine attr_of hb (thn (ha.run pins s σ H _ I (lE.go hr sr w kx fun ρ1 x h1 v H1 e1 hr1 sr1 kx1 dv1 q => (show ∃ (ws : List (Str × V)) (u : V), v = .ref a ∧ H1 dd = some (.xd ws) ∧ ws.lookup f = some u ∧ Q u H1 from ?_))) fun u s1 hh => ?_)
  · obtain ⟨fs, d, rfl, hl, q⟩ := q
    obtain ⟨rfl, ws, n, hH, dfs⟩ := dv1
    obtain ⟨y, hy, dy⟩ := dfs.lookup hl
    exact ⟨ws, y, rfl, hH, hy, k ρ1 d h1 y H1 e1 hr1 dy q⟩
  · obtain ⟨x, H1, I1, rx, ws, y, rfl, hH, hy, q⟩ := hh
    obtain rfl : u = Value.ref a := rx
    obtain ⟨hget, _⟩ := I1.pin (a, oe) (List.mem_append_left _ List.mem_cons_self)
    obtain ⟨vs, hv⟩ := hf
    obtain ⟨mA, hns, hrl⟩ := (show ObjOk X.prog X.w H1 s1.heap dd (.xd ws) from I1.hok dd _ hH)
    obtain ⟨od, ho, hlk⟩ := lookIn_ns hns
    obtain ⟨u, hu, ru⟩ := RelO.some_of (v := y) (o := mA f) (by rw [← hy]; exact hrl f)
    have J : PySem.W.InstAt s1.heap a oe (He.ga X.K (Str.ofString c)) (some od) := ⟨hget, hz.1, by unfold PySem.W.notCls; rw [hv] <;> rfl, by rw [hz.2]; exact ho⟩
    exact HandSPX.exc_get I1.kIn J hk.hg hk.hk hk.hs (PySem.W.findObj_own hk.hd (N.ok c hc) rfl (by rw [hlk, hu])) (handed_of ru) ⟨y, H1, I1.tok _, ru, q⟩
end
end L2.MW

/-! MW, part W: what the head must look at besides: error classes, clauses, isinstance. -/
namespace L2.MW
open PySem PySem.Spec PyProof.Rows
def exmB (K : PySem.W.Frag) (tbl : List (String × D × Bool)) : Bool := tbl.all fun t => decide (PySem.W.exmOne K (.ref (He.ga K (Str.ofString t.1))) (clsVal K t.2.1) = some t.2.2) && excCB K (He.ga K (Str.ofString t.1))
theorem exmB_ok {K : PySem.W.Frag} {tbl : List (String × D × Bool)} (h : exmB K tbl = true) : ExmF K tbl := ⟨fun t ht => by
  have := List.all_eq_true.mp h t ht
  rw [Bool.and_eq_true, decide_eq_true_eq] at this
  exact ⟨this.1, excCB_ok this.2⟩⟩
def kitEB (K : PySem.W.Frag) (tbl : List (String × D × Bool)) : Bool := tbl.all fun t => decide (PySem.W.kitOne K (.ref (He.ga K (Str.ofString t.1))) (clsVal K t.2.1) = some t.2.2)
theorem kitEB_ok {K : PySem.W.Frag} {tbl : List (String × D × Bool)} (h : kitEB K tbl = true) : KitE K tbl := ⟨fun t ht => of_decide_eq_true (List.all_eq_true.mp h t ht)⟩
def xnB (K : PySem.W.Frag) (cs : List String) (f : Str) : Bool := cs.all fun c => decide (PySem.W.findIn K (.ref (He.ga K (Str.ofString c))) f = some none)
theorem xnB_ok {K : PySem.W.Frag} {cs : List String} {f : Str} (h : xnB K cs f = true) : XN K cs f := ⟨fun c hc => of_decide_eq_true (List.all_eq_true.mp h c hc)⟩
/-- as the kit's hook by names, with a further test -/
def obsM (chk : PySem.W.Frag → Bool) (fa : List He.Fa) (fn : List He.DefD) (K : PySem.W.Frag) : He.AlD := (chk K && ((fa.all fun f => f.ok K) && fn.all fun d => d.ok K), fn.map fun d => He.fnW K d.at_)
def SaysM (chk : PySem.W.Frag → Bool) (fa : List He.Fa) (fn : List He.DefD) (K : PySem.W.Frag) : Prop := obsM chk fa fn K = He.valD fn
def obsMG (chk : PySem.W.Frag → Bool) (n : Nat) (fa : List He.Fa) (fn : List He.DefD) (g : Addr → Option Obj) : He.AlD := obsM chk fa fn (He.frG g (He.asD g n))
def hookM (chk : PySem.W.Frag → Bool) (n : Nat) (fa : List He.Fa) (fn : List He.DefD) : PySem.W.Hook where
  α := He.AlD
  obs := fun s => obsMG chk n fa fn s.heap.get?
  val := fun _ => He.valD fn
  says := fun _ h => ∃ K : PySem.W.Frag, K.In h ∧ SaysM chk fa fn K
  of := fun _ _ e => ⟨_, He.frG_in, e⟩
  keeps := fun _ _ _ ⟨K, hK, c⟩ k => ⟨K, PySem.W.Frag.In.keeps hK k, c⟩
theorem obsMG_eq {chk : PySem.W.Frag → Bool} {n : Nat} {fa : List He.Fa} {fn : List He.DefD} {g : Addr → Option Obj} {s : Shared} (h : ∀ a, g a = s.heap.get? a) : obsMG chk n fa fn g = (hookM chk n fa fn).obs s := by
  have e : g = s.heap.get? := funext h
  rw [e] <;> rfl
theorem SaysM.both {chk : PySem.W.Frag → Bool} {fa : List He.Fa} {fn : List He.DefD} {K : PySem.W.Frag} (c : SaysM chk fa fn K) : chk K = true ∧ He.SaysD fa fn K := by
  have e1 : (chk K && ((fa.all fun f => f.ok K) && fn.all fun d => d.ok K)) = true := congrArg (fun z : He.AlD => z.1) c
  have e2 : fn.map (fun d => He.fnW K d.at_) = fn.map He.DefD.val := congrArg (fun z : He.AlD => z.2) c
  rw [Bool.and_eq_true] at e1
  refine ⟨e1.1, ?_⟩
  show (_, _) = (_, _)
  rw [e1.2, e2]
theorem uuM {k : Nat} {A : Around} {o : Option Value} (r : Room k A) : (A.mark o).units + 64 < cLine := by
  have := r.un
  show A.units + 64 < cLine
  omega
theorem uuM1 {k : Nat} {A : Around} {o : Option Value} (r : Room k A) : (A.mark o).units + 65 < cLine := by
  have := r.un
  show A.units + 65 < cLine
  omega
theorem uuM0 {k : Nat} {A : Around} {o : Option Value} (r : Room k A) : (A.mark o).units < cLine := by
  have := r.un
  show A.units < cLine
  omega
/-! ### clauses, read -/
theorem disp_yes {tbl : List (String × D × Bool)} {E : DEnds} {x : Exc} {σ : DSt} {h : DHp} {c : D} {o : Option Nat} {t : Addr → String → Addr → DS} {r : List DCl} (ht : (x.cls, c, true) ∈ tbl) (q : runD o t E x σ h) : dispD tbl E x σ h ((c, o, t) :: r) :=
  ⟨true, ht, fun _ => q, fun z => nomatch z⟩
theorem disp_no {tbl : List (String × D × Bool)} {E : DEnds} {x : Exc} {σ : DSt} {h : DHp} {c : D} {o : Option Nat} {t : Addr → String → Addr → DS} {r : List DCl} (ht : (x.cls, c, false) ∈ tbl) (q : dispD tbl E x σ h r) : dispD tbl E x σ h ((c, o, t) :: r) :=
  ⟨false, ht, fun z => (nomatch z), fun _ => q⟩
theorem isE_eq {tbl : List (String × D × Bool)} {a dd : Addr} {c : String} {fs : List (Str × D)} {t : D} {b : Bool} {h : DHp} {Q : DK} (ht : isClsD t) (hb : (c, t, b) ∈ tbl) (q : Q (.bl b) h) : nIsE tbl a c dd [.exn a c dd fs, t] h Q := ⟨fs, t, b, rfl, ht, hb, q⟩
theorem exF_eq {a dd : Addr} {c : String} {fs : List (Str × D)} {f : Str} {d : D} {h : DHp} {Q : DK} (e : fs.lookup f = some d) : nExF a c dd f (.exn a c dd fs) h Q ↔ Q d h := by
  constructor
  · rintro ⟨fs', d', e1, e2, q⟩
    cases e1
    rw [e] at e2; cases e2
    exact q
  · intro q; exact ⟨fs, d, rfl, e, q⟩
/-- what an exception may leave behind it -/
theorem ex_of {h0 h : DHp} {X : DX} {Q : DK} {x : Exc} {σ : DSt} (q : X x h) : (endsD h0 X Q).ex x σ h := .inl q
theorem ex_back {h : DHp} {X : DX} {Q : DK} {x : Exc} {σ : DSt} {g : DHp} (b : BdF h.length x.fs) (q : X x h) : (endsD h X Q).ex x σ (h ++ g) := .inr ⟨g, rfl, b, q⟩
end L2.MW

/-! MW, part X: calls out of an except suite; the bodies that run there. -/
namespace L2.MW
open PySem PySem.Spec PyProof.Rows
abbrev SIH (X : Cx) (W : WX) (tg e : Expr) (t : DI) : Prop := L2H.PIH X tg e (lI X.K W t)
theorem PIH.imp {X : Cx} {tg e : Expr} {t t' : TI} (h : L2H.PIH X tg e t) (i : ∀ σ H Q, t' σ H Q → t σ H Q) : L2H.PIH X tg e t' := ⟨fun pins s σ H Q I w => h.run pins s σ H Q I (i σ H Q w)⟩
structure FnHC (P : Program) (w : World) (K : PySem.W.Frag) (mg : Str → Option Value) (base : Heap) (k : Nat) (x : Str) (n : Nat) (c : Ct) : Prop where
  ex : ∃ f fd ps, ps.length = n ∧ L2H.FnH P w K mg base (L2N.CX P w) k f fd ps (spOf K n c) ∧ mg x = some (.ref f) ∧ PySem.W.keepIn K (.ref f) = true ∧ Binds K fd ps []
section
variable {X : Cx} {W : WX} {pos p : Pos} {x : Str} {a e : Expr} {es : List Expr} {ts : DA} {c : Ct} {n k : Nat}
theorem se_callH (F : FnHC X.prog X.w X.K X.mg X.base k x n c) (tk : L2N.Takes X W) (hr : L2H.RoomH k X.A) (hot : L2H.HotC X) (ha : SA X W (e :: es) ts) (hg : Gl X x := by rfl) (hdb : (x == ("__debug__" : Str)) = false := by decide) (he : starEach (e :: es) X.env = (false, eval e X.env) :: starEach es X.env := by rfl)
    (hpl : (backTo pos (starEach es X.env)).any (·.1) = false := by rfl) : SE X W (.Call (.Name x p) (e :: es) [] pos) (dCall c n ts) := by
  obtain ⟨f, fd, ps, hps, F, hm, hk, hb⟩ := F.ex
  refine PE.imp (L2H.pe_callH F hr hot hg hm hk hb (fun σ => L2N.passAt tk σ) ha hdb he hpl) fun σ H Q w => ?_
  obtain ⟨ρ, σd, h, Xd, Qd, hr, sr, w, kx, k⟩ := w
  refine lA.go hr sr w kx fun ρ1 ds h1 vs H1 e1 hr1 sr1 kx1 dvs q => ?_
  exact ⟨ρ1, ds, h1, Xd, Qd, q.1, hr1, dvs, q.2, fun ρ' x h' cls d H' e hr' ea z => kx1 ρ' x h' cls d H' e hr' (sr1.ext e) ea z, fun ρ' d h' v H' e => k ρ' d h' v H' (e1.trans e)⟩
theorem si_range1H (hm : X.mg "range" = none) (ha : SA X W [a] ts) {tg : Expr} (hg : Gl X "range" := by rfl) (hs : starEach [a] X.env = [(false, eval a X.env)] := by rfl) : SIH X W tg (.Call (.Name "range" p) [a] [] pos) (iR1 ts) :=
  PIH.imp (L2H.pi_range1H hg hm ha hs) fun σ H R w => by
    obtain ⟨ρ, σd, h, Xd, Qd, hr, sr, w, kx, k⟩ := w
    refine ⟨ρ, σd, h, Xd, _, hr, sr, w, kx, fun ρ1 ds h1 vs H1 e1 hr1 dvs q => ?_⟩
    obtain ⟨j, rfl, hj, q⟩ := q
    obtain ⟨v, rfl, dv⟩ := dvs.un
    have ev : v = .int j := dv
    subst ev
    exact ⟨j, rfl, hj.2.2.1, hj.2.2.2, k ρ1 _ _ h1 _ H1 e1 hr1 it_range q⟩
theorem s1_forH {T : List Nat} {tg iter : Expr} {body : List Stmt} {ti : DI} {g : DG} {tb : DS} (hp : PassesOwn (model X.prog X.w) X.A X.env X.xe) (hc : L2H.HotC X) (hi : SIH X W tg iter ti) (hg : SG X W T tg g) (hb : SS X W body tb)
    (hs : ∀ x, foldedSetIterable iter X.env x = pure x := by intro _; rfl) : S1 X W (.For tg iter body [] pos) (sFor ti g tb) := by
  refine PS.imp (L2H.ps_forH hp hc hi hg hb hs) fun Dn σ H w => ?_
  obtain ⟨ρ0, H0, ρ, σd, h, E, e0, hr, sr, w, k⟩ := w
  refine lI.go hr sr w (k.xw e0) fun ρ1 items G h1 J H1 e1 hr1 sr1 kx1 it w1 => ?_
  have e01 := e0.trans e1
  refine ⟨fun i m σ H => m = items.length - i ∧ i ≤ items.length ∧ ∃ ρ2 σd2 h2, Ext ρ1 H1 ρ2 H ∧ HR X.K ρ2 h2 H ∧ SR X.K ρ2 H σd2 σ ∧ forW tb g G { E with n0 := h1.length } (items.drop i) σd2 h2, ⟨items.length, rfl, Nat.zero_le _, ρ1, σd, h1, .refl, hr1, sr1, w1⟩, ?_⟩
  rintro i m σ2 H2 ⟨rfl, hi, ρ2, σd2, h2, e12, hr2, sr2, w2⟩
  obtain ⟨itg, its⟩ := it ρ2 h2 H2 i e12 hr2 (forW_G w2)
  by_cases hlt : i < items.length
  · refine .inr ?_
    obtain ⟨go, yl⟩ := itg _ (List.getElem?_eq_getElem hlt)
    rw [List.drop_eq_getElem_cons hlt] at w2
    have w2' := w2.2
    refine ⟨go, fun σ' H' => ∃ ρ3 σd3 h3, Ext ρ1 H1 ρ3 H' ∧ HR X.K ρ3 h3 H' ∧ SR X.K ρ3 H' σd3 σ' ∧ forW tb g G { E with n0 := h1.length } (items.drop (i + 1)) σd3 h3, fun σ' H' n => ⟨items.length - (i + 1), by omega, rfl, hlt, n⟩, fun x H' y => ?_⟩
    obtain ⟨ey, hry, dvy⟩ := yl x H' y
    refine ⟨ρ2, σd2, h2, _, _, _, hry, sr2.ext ey, dvy, w2', k.xw ((e01.trans e12).trans ey), fun ρ3 σd3 h3 σ3 H3 e3 hr3 sr3 _ w3 => ?_⟩
    have e13 : Ext ρ1 H1 ρ3 H3 := (e12.trans ey).trans e3
    refine ⟨ρ1, H1, ρ3, σd3, h3, _, e13, hr3, sr3, w3, ⟨hr1.len.symm, ?_, ?_, ?_, ?_, ?_⟩⟩
    · exact fun ρ4 σd4 h4 σ4 H4 e4 hr4 sr4 q4 => ⟨ρ4, σd4, h4, e4, hr4, sr4, q4⟩
    · exact fun ρ4 σd4 h4 σ4 H4 e4 hr4 sr4 q4 => k.nx ρ4 σd4 h4 σ4 H4 (e01.trans e4) hr4 sr4 q4
    · exact fun ρ4 σd4 h4 σ4 H4 e4 hr4 sr4 q4 => ⟨ρ4, σd4, h4, e4, hr4, sr4, q4⟩
    · exact fun ρ4 d4 h4 v4 H4 e4 => k.rt ρ4 d4 h4 v4 H4 (e01.trans e4)
    · exact fun ρ4 x4 σd4 h4 c4 d4 σ4 H4 e4 => k.ex ρ4 x4 σd4 h4 c4 d4 σ4 H4 (e01.trans e4)
  · exact .inl ⟨its (Nat.le_of_not_lt hlt), by
      rw [List.drop_eq_nil_of_le (Nat.le_of_not_lt hlt)] at w2
      exact k.nx ρ2 σd2 h2 σ2 H2 (e01.trans e12) hr2 sr2 w2.2⟩

end
/-- a body's readings in a frame that stands within a suite -/
def BodyH (P : Program) (w : World) (K : PySem.W.Frag) (mg : Str → Option Value) (base : Heap) (N : List Str) (qual : Str) (scope : Scope) (body : List Stmt) (k : Nat) (tb : DS) : Prop :=
  ∀ (f : Addr) (cd : Value) (A : Around) (outer : List Env) (s : Shared) (H : Hp) (E : XK) (p : Addr × Obj), L2H.RoomH k (A.deeper (envOfC qual scope s.heap.objs.size f cd)) →
    L2H.HotC (L2H.cxH (L2N.CX P w) P w K mg base N qual scope f cd A outer s H E p) →
    L2N.Takes (L2H.cxH (L2N.CX P w) P w K mg base N qual scope f cd A outer s H E p) (fun cls d _ H' => E cls d H') →
    PassesOwn (model P w) (A.deeper (envOfC qual scope s.heap.objs.size f cd)) (envOfC qual scope s.heap.objs.size f cd) (L2H.cxH (L2N.CX P w) P w K mg base N qual scope f cd A outer s H E p).xe →
    SS (L2H.cxH (L2N.CX P w) P w K mg base N qual scope f cd A outer s H E p) (fun cls d _ H' => E cls d H') body tb
theorem fnH_ok {P : Program} {w : World} {K : PySem.W.Frag} {mg : Str → Option Value} {base : Heap} {k : Nat} {name qual : Str} {params : Arguments} {body : List Stmt} {scope : Scope} {kws : List (Str × V)} {f : Addr} {fd : FuncData} {N ps : List Str} {c : Ct} {tb : DS}
    (F : FunD K name qual params body scope [] kws f fd) (S : FnScope N ps scope) (hb : BodyH P w K mg base N qual scope body k tb)
    (read : ∀ ds h Xd Q, ds.length = ps.length → c ds h Xd Q → tb (endsD h Xd Q) (startD N.length ds) h) : L2H.FnH P w K mg base (L2N.CX P w) (k + 1) f fd ps (spOf K ps.length c) := by
  obtain ⟨oc, od, dV, kV, doc, pm, an, cdv, ct, osl, rfl, lk, hcd, _, _⟩ := F.ex
  refine L2H.fn_ofH lk hcd S (fun vs H Q E h => ?_) (fun A outer s H vs Q E p hot hr h => ?_)
  · obtain ⟨ρ, ds, hp, Xd, Qd, hn, _, dvs, _⟩ := h
    rw [dvs.length]; exact hn
  · obtain ⟨ρ, ds, hp, Xd, Qd, hn, hR, dvs, hc, hx, hq⟩ := h
    refine ⟨_, hb f cdv A outer s H E p hr ⟨p, hot, List.mem_singleton_self _⟩ (L2N.takes_of rfl rfl rfl rfl) (passes_of (X := L2H.cxH (L2N.CX P w) P w K mg base N qual scope f cdv A outer s H E p) rfl), ρ, H, ρ, startD N.length ds, hp, endsD hp Xd Qd, .refl, hR, start_sr dvs, read ds hp Xd Qd hn hc, ⟨hR.len.symm, ?_, ?_, ?_, ?_, ?_⟩⟩
    · intro ρ1 σd h1 σ H1 e1 hr1 sr1 q
      obtain ⟨d', h', cr, q⟩ := q
      obtain ⟨ρ', e', hr', dv'⟩ := cr.at_ hR e1 hr1 (v := .non) rfl
      exact hq ρ' d' h' _ H1 e' hr' dv' q
    · exact fun _ _ _ _ _ _ _ _ z => z.elim
    · exact fun _ _ _ _ _ _ _ _ z => z.elim
    · intro ρ1 d h1 v H1 e1 hr1 dv q
      obtain ⟨d', h', cr, q⟩ := q
      obtain ⟨ρ', e', hr', dv'⟩ := cr.at_ hR e1 hr1 dv
      exact hq ρ' d' h' _ H1 e' hr' dv' q
    · intro ρ1 x σd h1 cls d σ H1 e1 hr1 sr1 ea q
      rcases q with q | ⟨g, rfl, b, q⟩
      · exact hx ρ1 x h1 cls d H1 e1 hr1 ea q
      · obtain ⟨t, rfl⟩ := e1.pre
        exact hx ρ x hp cls d H1 e1.cut (hr1.cut hR.len hR.bd) (exc_cut (by rw [hR.len]; exact b) ea) q
/-- the room of a suite -/
theorem roomS {X : Cx} {k : Nat} {a : Addr} {pn : List (Addr × Obj)} (r : Room k X.A) : L2H.RoomH k (X.suite a pn).A := ⟨r.dp, r.un⟩
/-- nothing gets out of a promise that is never asked for -/
theorem fnH_no {P : Program} {w : World} {K : PySem.W.Frag} {mg : Str → Option Value} {base : Heap} {k n : Nat} {f : Addr} {fd : FuncData} {ps : List Str} {c : Ct} (no : ∀ ds h X Q, ¬ c ds h X Q) : L2H.FnH P w K mg base (L2N.CX P w) k f fd ps (spOf K n c) :=
  ⟨fun vs H Q E h => by obtain ⟨ρ, ds, hp, Xd, Qd, hn, hR, dvs, hc, _⟩ := h; exact (no _ _ _ _ hc).elim,
   fun A outer s H args us vs Q E p hr hot hpin he hb hv h => by obtain ⟨ρ, ds, hp, Xd, Qd, hn, hR, dvs, hc, _⟩ := h; exact (no _ _ _ _ hc).elim⟩
theorem fn_no {P : Program} {w : World} {K : PySem.W.Frag} {mg : Str → Option Value} {base : Heap} {k n : Nat} {f : Addr} {fd : FuncData} {ps : List Str} {c : Ct} (no : ∀ ds h X Q, ¬ c ds h X Q) : FnOk P w K mg base (L2N.CX P w) k f fd ps (spOf K n c) :=
  ⟨fun vs H Q E h => by obtain ⟨ρ, ds, hp, Xd, Qd, hn, hR, dvs, hc, _⟩ := h; exact (no _ _ _ _ hc).elim,
   fun A outer s H args us vs Q E hr he hb hv h => by obtain ⟨ρ, ds, hp, Xd, Qd, hn, hR, dvs, hc, _⟩ := h; exact (no _ _ _ _ hc).elim⟩
end L2.MW

/-! MW, part Y: the order of nested data, sorted of it; more methods of lists; ranges as lists; zip; join; is True. -/
namespace L2.MW
open PySem PySem.Spec PyProof.Rows

/-! ### the order of data -/
def alkD (x y : D) : Bool := PySem.W.alike (toP x) (toP y)
def ltD (x y : D) : Bool := PySem.W.dataLt (toP x) (toP y)
def someD : D → Bool
  | .int _ => true
  | .str _ => true
  | .tup _ => true
  | .bl _ => true
  | .lst _ => true
  | _ => false
theorem someD_ne {d : D} (h : someD d = true) : toP d ≠ .none := by cases d <;> first | (intro e; cases e; done) | cases h
def dCmpD (f : D → D → Bool) : D2 := fun x y h Q => OkD 60 x ∧ OkD 60 y ∧ someD x = true ∧ alkD x y = true ∧ Q (.bl (f x y)) h
section
variable {X : Cx}
def rCmpD (K : PySem.W.Frag) (f : PyData → PyData → Bool) : R2 := fun x y H Q => ∃ d e, Dp K H x d ∧ Dp K H y e ∧ PySem.W.alike d e = true ∧ d ≠ .none ∧ d.depth ≤ 60 ∧ Q (.bl (f d e)) H
theorem op_ltDt (hu : X.A.units + 64 < cLine) : OpR X (compareOp .Lt) (rCmpD X.K fun d e => PySem.W.dataLt d e) := by
  intro pins s σ H x y v u Q I rx ry h
  obtain ⟨d, e, hd, he, ha, hn, hp, q⟩ := h
  obtain ⟨as, r1⟩ := Dp.reads I d x v hd rx
  obtain ⟨bs, r2⟩ := Dp.reads I e y u he ry
  exact PySem.W.lt_data r1 r2 ha hn (by have := Nat.min_le_left d.depth e.depth; omega) ⟨.bl _, H, I, rfl, q⟩
theorem op_leDt (hu : X.A.units + 64 < cLine) : OpR X (compareOp .LtE) (rCmpD X.K fun d e => !PySem.W.dataLt e d) := by
  intro pins s σ H x y v u Q I rx ry h
  obtain ⟨d, e, hd, he, ha, hn, hp, q⟩ := h
  obtain ⟨as, r1⟩ := Dp.reads I d x v hd rx
  obtain ⟨bs, r2⟩ := Dp.reads I e y u he ry
  exact PySem.W.le_data r1 r2 ha hn (by have := Nat.min_le_left d.depth e.depth; omega) ⟨.bl _, H, I, rfl, q⟩
end
theorem L_cmpD {K : PySem.W.Frag} {f : D → D → Bool} {g : PyData → PyData → Bool} (e : ∀ x y, f x y = g (toP x) (toP y)) : L2ok K (dCmpD f) (rCmpD K g) := by
  intro ρ h H x y vx vy Qd Q hr dx dy w k
  obtain ⟨o1, o2, n, a, q⟩ := w
  obtain ⟨a1, a2, a3⟩ := OkD.dp 60 _ _ o1 dx
  obtain ⟨b1, b2, b3⟩ := OkD.dp 60 _ _ o2 dy
  refine ⟨_, _, a1, b1, a, someD_ne n, a3, ?_⟩
  rw [← e]
  exact k ρ (.bl _) h _ H .refl hr rfl q
abbrev dLtD : D2 := dCmpD ltD
abbrev dLeD : D2 := dCmpD fun x y => !ltD y x
section
variable {X : Cx} {W : WX} {a b : Expr} {da db : DE} {pos : Pos}
theorem se_ltD (hu : X.A.units + 64 < cLine) (ha : SE X W a da) (hb : SE X W b db) (hm : behindInMarks .Lt b = false := by first | exact nomark _ | rfl) : SE X W (.Compare a [.Lt] [b] pos) (dOp dLtD da db) := se_cmp (op_ltDt hu) (L_cmpD fun _ _ => rfl) ha hb hm
theorem st_ltD (hu : X.A.units + 64 < cLine) (ha : SE X W a da) (hb : SE X W b db) (hm : behindInMarks .Lt b = false := by first | exact nomark _ | rfl) : ST X W (.Compare a [.Lt] [b] pos) (dTst (dOp dLtD da db)) := st_cmp (op_ltDt hu) (L_cmpD fun _ _ => rfl) ha hb hm
theorem se_leD (hu : X.A.units + 64 < cLine) (ha : SE X W a da) (hb : SE X W b db) (hm : behindInMarks .LtE b = false := by first | exact nomark _ | rfl) : SE X W (.Compare a [.LtE] [b] pos) (dOp dLeD da db) := se_cmp (op_leDt hu) (L_cmpD fun _ _ => rfl) ha hb hm
theorem st_leD (hu : X.A.units + 64 < cLine) (ha : SE X W a da) (hb : SE X W b db) (hm : behindInMarks .LtE b = false := by first | exact nomark _ | rfl) : ST X W (.Compare a [.LtE] [b] pos) (dTst (dOp dLeD da db)) := st_cmp (op_leDt hu) (L_cmpD fun _ _ => rfl) ha hb hm
end
/-! ### sorted of data -/
def leS (x y : D) : Bool := !ltD y x
def dsort (l : List D) : List D := l.mergeSort leS
/-- any two compare; all are tuples with a member, or none is one -/
def SrtOk (l : List D) : Prop := (∀ x ∈ l, ∀ y ∈ l, alkD x y = true) ∧ ((∀ x ∈ l, ∃ y r, x = .tup (y :: r)) ∨ ∀ x ∈ l, someD x = true ∧ ∀ r, x ≠ .tup r) ∧ (∀ x ∈ l, OkD 50 x) ∧ l.length ≤ sizeLine
section
variable {K : PySem.W.Frag}
def rSrtD (K : PySem.W.Frag) : List V → Hp → VK → Prop := fun vs H Q => ∃ (a : Addr) (ps : List (V × D)), vs = [V.ref a] ∧ SqL K H a (ps.map (·.1)) ∧ (∀ p ∈ ps, Dp K H p.1 (toP p.2) ∧ (toP p.2).depth ≤ 50) ∧ SrtOk (ps.map (·.2)) ∧
  ∀ p, H p = none → Q (.ref p) (upd H p (.lst ((ps.mergeSort fun x y => leS x.2 y.2).map (·.1))))
theorem vals_each : ∀ {ps : List (V × D)} {us : List Value}, Vals (ps.map (·.1)) us → PySem.W.EachIs (fun u (p : V × D) => RelV p.1 u) us ps
  | [], _, h => by cases h; exact .nil
  | p :: ps, _, h => by
    cases h with
    | cons h1 h2 => exact .cons h1 (vals_each h2)
theorem each_vals : ∀ {us : List Value} {ps : List (V × D)}, PySem.W.EachIs (fun u (p : V × D) => RelV p.1 u) us ps → Vals (ps.map (·.1)) us
  | _, _, .nil => .nil
  | _, _, .cons h t => .cons h (each_vals t)
theorem each_with {α β : Type} {R S : α → β → Prop} : ∀ {as : List α} {bs : List β}, PySem.W.EachIs R as bs → (∀ a b, b ∈ bs → R a b → S a b) → PySem.W.EachIs S as bs
  | _, _, .nil, _ => .nil
  | _, _, .cons h t, k => .cons (k _ _ List.mem_cons_self h) (each_with t fun a b hb => k a b (List.mem_cons_of_mem _ hb))
theorem cr_srtD {X : Cx} (hu : X.A.units + 64 < cLine) : CallR X (.builtin "sorted") (rSrtD X.K) := by
  intro pins s σ H vs us Q I r h
  obtain ⟨a, ps, rfl, hs, hx, ok, q⟩ := h
  obtain ⟨its, rv, hl, hz⟩ := I.list hs
  obtain ⟨u, rfl, ru⟩ := vals1 r
  obtain rfl : u = Value.ref a := ru
  have e := vals_each rv
  have er : PySem.W.EachIs (fun v (p : V × D) => ∃ as, Reads s.heap v (toP p.2) as) its ps := each_with e fun u p hp ru => Dp.reads I _ _ _ (hx p hp).1 ru
  obtain ⟨k1, k2, k3, k4⟩ := ok
  have hm : ∀ p ∈ ps, p.2 ∈ ps.map (·.2) := fun p hp => List.mem_map.mpr ⟨p, hp, rfl⟩
  have hlen : ps.length ≤ sizeLine := by rw [List.length_map] at k4; exact k4
  refine PySem.W.sorted_data (enc := fun p : V × D => toP p.2) (R := fun u (p : V × D) => RelV p.1 u) hl.isList e er ?_ ?_ hlen (fun b hb => by have := (hx b hb).2; omega) fun out hout ho => ?_
  · intro d hd d' hd'
    obtain ⟨p, hp, rfl⟩ := List.mem_map.mp hd
    obtain ⟨p', hp', rfl⟩ := List.mem_map.mp hd'
    exact k1 _ (hm p hp) _ (hm p' hp')
  · rcases k2 with k2 | k2
    · refine .inl fun d hd => ?_
      obtain ⟨p, hp, rfl⟩ := List.mem_map.mp hd
      obtain ⟨y, r, e2⟩ := k2 _ (hm p hp)
      exact ⟨toP y, toPs r, by rw [e2]; rfl⟩
    · refine .inr fun d hd => ?_
      obtain ⟨p, hp, rfl⟩ := List.mem_map.mp hd
      obtain ⟨n1, n2⟩ := k2 _ (hm p hp)
      refine ⟨someD_ne n1, fun xs z => ?_⟩
      cases q2 : p.2 with
      | tup r => exact n2 r q2
      | _ => rw [q2] at z; cases z
  · have e3 : (ps.mergeSort fun x y => leS x.2 y.2) = ps.mergeSort (PySem.W.dataLe false fun p : V × D => toP p.2) := rfl
    obtain ⟨n, hn⟩ : ∃ n, (sortedAll s.heap its (List.toArray out)).get? (s.heap.objs.size + 1) = some (seqObj "list" (List.toArray out) n) := sortedAll_at s.heap its (List.toArray out)
    have rv2 : Vals ((ps.mergeSort fun x y => leS x.2 y.2).map (·.1)) out := by rw [e3]; exact each_vals ho
    refine ⟨.ref (s.heap.objs.size + 1), upd H (s.heap.objs.size + 1) (.lst ((ps.mergeSort fun x y => leS x.2 y.2).map (·.1))), I.laid (t' := s.toks) (fun b o z => sortedAll_old z) (Nat.le_succ _) ⟨?_, out, n, rv2, hn⟩, rfl, q _ (I.hok.fresh (Nat.le_succ _))⟩
    rw [List.length_map, List.length_mergeSort]
    exact hlen
def nSrtD : DN := fun ds h Q => ∃ d l, ds = [d] ∧ asL h d = some l ∧ SrtOk l ∧ Q (.lst (dsort l)) h
theorem DVs.zip {ρ : List Addr} {H : Hp} : ∀ {l : List D} {vs : List V}, DVs K ρ H l vs → (vs.zip l).map (·.1) = vs ∧ (vs.zip l).map (·.2) = l ∧ ∀ p ∈ vs.zip l, DV K ρ H p.2 p.1
  | [], _, h => by rw [show _ = [] from h]; exact ⟨rfl, rfl, fun p hp => by cases hp⟩
  | d :: l, _, ⟨v, r, e, h1, h2⟩ => by
    subst e
    obtain ⟨a1, a2, a3⟩ := DVs.zip h2
    refine ⟨by rw [List.zip_cons_cons, List.map_cons, a1], by rw [List.zip_cons_cons, List.map_cons, a2], fun p hp => ?_⟩
    rw [List.zip_cons_cons] at hp
    rcases List.mem_cons.mp hp with rfl | hp
    · exact h1
    · exact a3 p hp
theorem DVs.of_ps {ρ : List Addr} {H : Hp} : ∀ {ps : List (V × D)}, (∀ p ∈ ps, DV K ρ H p.2 p.1) → DVs K ρ H (ps.map (·.2)) (ps.map (·.1))
  | [], _ => rfl
  | p :: ps, h => ⟨p.1, _, rfl, h p List.mem_cons_self, DVs.of_ps fun q hq => h q (List.mem_cons_of_mem _ hq)⟩
theorem OkD.up {n m : Nat} (hm : n ≤ m) : ∀ {d : D}, OkD n d → OkD m d := by
  induction n generalizing m with
  | zero =>
    intro d o
    cases d <;> first | exact o.elim | (cases m <;> exact o)
  | succ n ih =>
    intro d o
    obtain ⟨m, rfl⟩ : ∃ k, m = k + 1 := ⟨m - 1, by omega⟩
    cases d with
    | tup l => exact fun x hx => ih (by omega) (o x hx)
    | lst l => exact fun x hx => ih (by omega) (o x hx)
    | fz l => exact fun x hx => ih (by omega) (o x hx)
    | _ => first | exact o | exact o.elim
theorem L_srtD : LNok K nSrtD (rSrtD K) := by
  intro ρ h H xs vs Qd Q hr dvs w k
  obtain ⟨d, l, rfl, e, ok, q⟩ := w
  obtain ⟨v, rfl, dv⟩ := dvs.un
  obtain ⟨a, vs, rfl, hq, ds⟩ := asL_at hr dv e
  obtain ⟨a1, a2, a3⟩ := ds.zip
  refine ⟨a, vs.zip l, rfl, by rw [a1]; exact hq, fun p hp => ?_, by rw [a2]; exact ok, fun p np => ?_⟩
  · have hm : p.2 ∈ l := by rw [← a2]; exact List.mem_map.mpr ⟨p, hp, rfl⟩
    obtain ⟨b1, b2, b3⟩ := OkD.dp 50 _ _ (ok.2.2.1 _ hm) (a3 p hp)
    exact ⟨b1, b3⟩
  · have e2 : (((vs.zip l).mergeSort fun x y => leS x.2 y.2).map (·.2)) = dsort l := by
      unfold dsort
      have := PySem.W.sort_maps (r := fun x y : V × D => leS x.2 y.2) (s := leS) (fun p => p.2) (l := vs.zip l) fun _ _ _ _ => rfl
      rw [this, a2]
    have dy : DVs K ρ H (dsort l) (((vs.zip l).mergeSort fun x y => leS x.2 y.2).map (·.1)) := by
      rw [← e2]
      exact DVs.of_ps fun p hp => a3 p ((List.mergeSort_perm _ _).mem_iff.mp hp)
    exact k ρ _ h _ _ (.new1 np) (hr.new1 np) (.lstNew hr np dy) q
end
section
variable {X : Cx} {W : WX} {pos p p2 : Pos} {e : Expr} {es : List Expr} {ts : DA} {a b : Expr} {da db de : DE}
theorem se_sortD (hu : X.A.units + 64 < cLine) (hm : X.mg "sorted" = none) (ha : SA X W (e :: es) ts) (hg : Gl X "sorted" := by rfl) (he : starEach (e :: es) X.env = (false, eval e X.env) :: starEach es X.env := by rfl) (hpl : (backTo pos (starEach es X.env)).any (·.1) = false := by rfl) : SE X W (.Call (.Name "sorted" p) (e :: es) [] pos) (dCB nSrtD ts) := se_cb (cr_srtD hu) L_srtD hg hm (by decide +kernel) ha (he := he) (hpl := hpl)
end

/-! ### more methods of lists -/
section
variable {K : PySem.W.Frag}
def mIns : DM := fun x xs h Q => ∃ (i : Nat) (l : List D) (j : Nat) (y : D), x = .ref i ∧ xs = [.int (j : Int), y] ∧ h[i]? = some (.lst l) ∧ j < 2 ^ 62 ∧ l.length < sizeLine ∧ Q .non (h.set i (.lst (l.take j ++ [y] ++ l.drop j)))
def rInsL : V → List V → Hp → VK → Prop := fun x vs H Q => ∃ (l : Addr) (xs : List V) (i : Int) (y : V), x = .ref l ∧ vs = [.int i, y] ∧ H l = some (.lst xs) ∧ xs.length < sizeLine ∧ 0 ≤ i ∧ i < 2 ^ 63 ∧ Q .non (upd H l (.lst (xs.take i.toNat ++ [y] ++ xs.drop i.toNat)))
theorem L_ins : LMok K mIns rInsL := by
  intro ρ h H x xs v vs Qd Q hr dx dvs w k
  obtain ⟨i, l, j, y, rfl, rfl, hi, hj2, hz, q⟩ := w
  obtain ⟨u', u, rfl, du', du⟩ := dvs.bi
  have ev : u' = .int (j : Int) := du'
  subst ev
  obtain ⟨a, ws, rfl, hj, hH, dl⟩ := ref_lst hr dx hi
  obtain ⟨a1, a2⟩ := write_lst hr hj (((dl.take j).append (.one du)).append (dl.drop j))
  refine ⟨a, ws, j, u, rfl, rfl, hH, by rw [dl.length]; exact hz, by omega, by omega, ?_⟩
  rw [Int.toNat_natCast]
  exact k ρ .non _ _ _ a2 a1 rfl q
/-- the place of an item: the first that is equal -/
def mIdx : DM := fun x xs h Q => ∃ l y j z, xs = [y] ∧ rz h x = .lst l ∧ OkD 60 (.lst l) ∧ OkD 60 y ∧ l[j]? = some z ∧ deq z y = true ∧ (∀ m z', m < j → l[m]? = some z' → deq z' y = false) ∧ Q (.int (j : Nat)) h
theorem toPs_get {l : List D} {j : Nat} : (toPs l)[j]? = l[j]?.map toP := by rw [toPs_map, List.getElem?_map]
theorem ref_of_lst {ρ : List Addr} {h : DHp} {H : Hp} {x : D} {v : V} {l : List D} (hr : HR K ρ h H) (dx : DV K ρ H x v) (e : rz h x = .lst l) : ∃ a, v = .ref a := by
  cases x with
  | lst m => obtain ⟨a, vs, rfl, _⟩ := dx; exact ⟨a, rfl⟩
  | ref i => obtain ⟨a, rfl, _⟩ := dx; exact ⟨a, rfl⟩
  | _ => cases e
theorem L_idx : LMok K mIdx (rIndexD K) := by
  intro ρ h H x xs v vs Qd Q hr dx dvs w k
  obtain ⟨l, y, j, z, rfl, e, o1, o2, hz, hq, hno, q⟩ := w
  obtain ⟨u, rfl, du⟩ := dvs.un
  obtain ⟨a1, b1, a2, b2⟩ := in_at hr du dx e o2 o1
  obtain ⟨a, rfl⟩ := ref_of_lst hr dx e
  refine ⟨a, u, toP y, toPs l, j, toP z, rfl, rfl, b1, a1, b2, a2, by rw [toPs_get, hz]; rfl, hq, fun m z' hm hz' => ?_, k ρ (.int (j : Nat)) h _ H .refl hr rfl q⟩
  rw [toPs_get] at hz'
  obtain ⟨z2, e2, rfl⟩ := Option.map_eq_some_iff.mp hz'
  exact hno m z2 hm e2
end
section
variable {X : Cx} {W : WX} {pos p p2 pos2 apos : Pos} {e : Expr} {es : List Expr} {ts : DA} {o : Expr} {dd de : DE}
theorem se_insert (ho : SE X W o dd) (ha : SA X W (e :: es) ts) (hbase : attributeBase o "insert" X.env (eval o X.env) = eval o X.env := by rfl)
    (hfew : ((backTo pos (starEach (e :: es) X.env)).all (fun x => !x.1) && (backToKw pos (keywordEach [] X.env)).all (fun x => x.1.isSome)
      && decide ((e :: es).length + ([] : List Keyword).length + (if ([] : List Keyword).isEmpty then 0 else 1) < 30)) = true := by rfl)
    (hline : (apos.endLine == pos.line) = true := by rfl) (hs : starEach (e :: es) X.env = (false, eval e X.env) :: starEach es X.env := by rfl) (hplain : (backTo pos (starEach es X.env)).any (·.1) = false := by rfl) :
    SE X W (.Call (.Attribute o "insert" apos) (e :: es) [] pos) (dBM "list" mIns dd ts) := se_bm PySem.F.plainAttrs_list PySem.F.slot_list_insert PySem.F.type_list_insert mt_insert L_ins ho ha hbase hfew hline hs hplain
theorem se_extend (ho : SE X W o dd) (ha : SA X W (e :: es) ts) (hbase : attributeBase o "extend" X.env (eval o X.env) = eval o X.env := by rfl)
    (hfew : ((backTo pos (starEach (e :: es) X.env)).all (fun x => !x.1) && (backToKw pos (keywordEach [] X.env)).all (fun x => x.1.isSome)
      && decide ((e :: es).length + ([] : List Keyword).length + (if ([] : List Keyword).isEmpty then 0 else 1) < 30)) = true := by rfl)
    (hline : (apos.endLine == pos.line) = true := by rfl) (hs : starEach (e :: es) X.env = (false, eval e X.env) :: starEach es X.env := by rfl) (hplain : (backTo pos (starEach es X.env)).any (·.1) = false := by rfl) :
    SE X W (.Call (.Attribute o "extend" apos) (e :: es) [] pos) (dBM "list" mExt dd ts) := se_bm PySem.F.plainAttrs_list PySem.F.slot_list_extend PySem.F.type_list_extend mt_extend L_ext ho ha hbase hfew hline hs hplain
theorem se_index (hu : X.A.units + 65 < cLine) (ho : SE X W o dd) (ha : SA X W (e :: es) ts) (hbase : attributeBase o "index" X.env (eval o X.env) = eval o X.env := by rfl)
    (hfew : ((backTo pos (starEach (e :: es) X.env)).all (fun x => !x.1) && (backToKw pos (keywordEach [] X.env)).all (fun x => x.1.isSome)
      && decide ((e :: es).length + ([] : List Keyword).length + (if ([] : List Keyword).isEmpty then 0 else 1) < 30)) = true := by rfl)
    (hline : (apos.endLine == pos.line) = true := by rfl) (hs : starEach (e :: es) X.env = (false, eval e X.env) :: starEach es X.env := by rfl) (hplain : (backTo pos (starEach es X.env)).any (·.1) = false := by rfl) :
    SE X W (.Call (.Attribute o "index" apos) (e :: es) [] pos) (dBM "list" mIdx dd ts) := se_bm PySem.F.plainAttrs_list PySem.F.slot_list_index PySem.F.type_list_index (mt_indexD hu) L_idx ho ha hbase hfew hline hs hplain
theorem se_pop1 (ho : SE X W o dd) (ha : SA X W (e :: es) ts) (hbase : attributeBase o "pop" X.env (eval o X.env) = eval o X.env := by rfl)
    (hfew : ((backTo pos (starEach (e :: es) X.env)).all (fun x => !x.1) && (backToKw pos (keywordEach [] X.env)).all (fun x => x.1.isSome)
      && decide ((e :: es).length + ([] : List Keyword).length + (if ([] : List Keyword).isEmpty then 0 else 1) < 30)) = true := by rfl)
    (hline : (apos.endLine == pos.line) = true := by rfl) (hs : starEach (e :: es) X.env = (false, eval e X.env) :: starEach es X.env := by rfl) (hplain : (backTo pos (starEach es X.env)).any (·.1) = false := by rfl) :
    SE X W (.Call (.Attribute o "pop" apos) (e :: es) [] pos) (dBM "list" mPopAt dd ts) := se_bm PySem.F.plainAttrs_list PySem.F.slot_list_pop PySem.F.type_list_pop mt_popAt L_popAt ho ha hbase hfew hline hs hplain
theorem se_pop0 (ho : SE X W o dd) (hbase : attributeBase o "pop" X.env (eval o X.env) = eval o X.env := by rfl) (hline : (apos.endLine == pos.line) = true := by rfl) :
    SE X W (.Call (.Attribute o "pop" apos) [] [] pos) (dBM0 "list" mPop dd) := se_bm0 PySem.F.plainAttrs_list PySem.F.slot_list_pop PySem.F.type_list_pop mt_pop L_pop ho hbase hline
/-! ### list(range(n)), tuple(range(n)) -/
theorem rgV_at {K : PySem.W.Frag} {ρ : List Addr} {H : Hp} {a b : Int} : DVs K ρ H (rgD a (b - a).toNat) (rgV a b) := by
  have e1 : rgD a (b - a).toNat = ((List.range (b - a).toNat).map fun i : Nat => a + (i : Int)).map D.int := by unfold rgD; rw [List.map_map]; rfl
  have e2 : rgV a b = ((List.range (b - a).toNat).map fun i : Nat => a + (i : Int)).map V.int := by unfold rgV; rw [List.map_map]; rfl
  rw [e1, e2]
  exact DVs.of_ints
def dRgT (da : DE) : DE := fun σ h X Q => da σ h X fun d h1 => ∃ n : Nat, d = .int n ∧ n ≤ 1000000 ∧ Q (.tup (rgD 0 n)) h1
def dRgL (da : DE) : DE := fun σ h X Q => da σ h X fun d h1 => ∃ n : Nat, d = .int n ∧ n ≤ 1000000 ∧ Q (.lst (rgD 0 n)) h1
def dRgH (da : DE) : DE := fun σ h X Q => da σ h X fun d h1 => ∃ n : Nat, d = .int n ∧ n ≤ 1000000 ∧ Q (.ref h1.length) (h1 ++ [.lst (rgD 0 n)])
theorem rg_ok {n : Nat} (h : n ≤ 1000000) : RgOk 0 (n : Int) := by
  unfold RgOk
  have hz : (1000000 : Nat) ≤ sizeLine := by decide
  refine ⟨by omega, by omega, by omega, by omega, by omega⟩
theorem se_tupRg (hc : X.calm = true) (hm : X.mg "tuple" = none) (hm2 : X.mg "range" = none) (he : SE X W e de) (hg : Gl X "tuple" := by rfl) (hg2 : Gl X "range" := by rfl)
    (na : starEach [e] X.env = (false, eval e X.env) :: starEach [] X.env := by rfl)
    (na2 : starEach [.Call (.Name "range" p2) [e] [] pos2] X.env = (false, eval (.Call (.Name "range" p2) [e] [] pos2) X.env) :: starEach [] X.env := by rfl) :
    SE X W (.Call (.Name "tuple" p) [.Call (.Name "range" p2) [e] [] pos2] [] pos) (dRgT de) := PE.imp (pe_tupRg hc hg hm (prg_1 hg2 hm2 he na) na2) fun σ H Q w => by
  obtain ⟨ρ, σd, h, Xd, Qd, hr, sr, w, kx, k⟩ := w
  refine ⟨ρ, σd, h, Xd, _, hr, sr, w, kx, fun ρ1 d h1 v H1 e1 hr1 dv q => ?_⟩
  obtain ⟨n, rfl, hn, q⟩ := q
  refine ⟨n, dv, rg_ok hn, fun p np => ?_⟩
  have dd := rgV_at (K := X.K) (ρ := ρ1) (H := H1) (a := 0) (b := n)
  rw [Int.sub_zero, Int.toNat_natCast] at dd
  exact k ρ1 _ h1 _ _ (e1.trans (.new1 np)) (hr1.new1 np) (.tupNew hr1 np dd) q
theorem se_lstRg (hc : X.calm = true) (hm : X.mg "list" = none) (hm2 : X.mg "range" = none) (he : SE X W e de) (hg : Gl X "list" := by rfl) (hg2 : Gl X "range" := by rfl)
    (na : starEach [e] X.env = (false, eval e X.env) :: starEach [] X.env := by rfl)
    (na2 : starEach [.Call (.Name "range" p2) [e] [] pos2] X.env = (false, eval (.Call (.Name "range" p2) [e] [] pos2) X.env) :: starEach [] X.env := by rfl) :
    SE X W (.Call (.Name "list" p) [.Call (.Name "range" p2) [e] [] pos2] [] pos) (dRgL de) := PE.imp (pe_listRg hc hg hm (prg_1 hg2 hm2 he na) na2) fun σ H Q w => by
  obtain ⟨ρ, σd, h, Xd, Qd, hr, sr, w, kx, k⟩ := w
  refine ⟨ρ, σd, h, Xd, _, hr, sr, w, kx, fun ρ1 d h1 v H1 e1 hr1 dv q => ?_⟩
  obtain ⟨n, rfl, hn, q⟩ := q
  refine ⟨n, dv, rg_ok hn, fun p np => ?_⟩
  have dd := rgV_at (K := X.K) (ρ := ρ1) (H := H1) (a := 0) (b := n)
  rw [Int.sub_zero, Int.toNat_natCast] at dd
  exact k ρ1 _ h1 _ _ (e1.trans (.new1 np)) (hr1.new1 np) (.lstNew hr1 np dd) q
theorem se_lstRgH (hc : X.calm = true) (hm : X.mg "list" = none) (hm2 : X.mg "range" = none) (he : SE X W e de) (hg : Gl X "list" := by rfl) (hg2 : Gl X "range" := by rfl)
    (na : starEach [e] X.env = (false, eval e X.env) :: starEach [] X.env := by rfl)
    (na2 : starEach [.Call (.Name "range" p2) [e] [] pos2] X.env = (false, eval (.Call (.Name "range" p2) [e] [] pos2) X.env) :: starEach [] X.env := by rfl) :
    SE X W (.Call (.Name "list" p) [.Call (.Name "range" p2) [e] [] pos2] [] pos) (dRgH de) := PE.imp (pe_listRg hc hg hm (prg_1 hg2 hm2 he na) na2) fun σ H Q w => by
  obtain ⟨ρ, σd, h, Xd, Qd, hr, sr, w, kx, k⟩ := w
  refine ⟨ρ, σd, h, Xd, _, hr, sr, w, kx, fun ρ1 d h1 v H1 e1 hr1 dv q => ?_⟩
  obtain ⟨n, rfl, hn, q⟩ := q
  refine ⟨n, dv, rg_ok hn, fun p np => ?_⟩
  have dd := rgV_at (K := X.K) (ρ := ρ1) (H := H1) (a := 0) (b := n)
  rw [Int.sub_zero, Int.toNat_natCast] at dd
  obtain ⟨a1, a2⟩ := push_lst hr1 np dd
  exact k _ _ _ _ _ (e1.trans (.push np)) a1 a2 q
/-! ### join -/
def dJoin (dd : DE) (de : DE) : DE := fun σ h X Q => dd σ h X fun x h1 => ∃ a, x = .str a ∧ de σ h1 X fun y h2 => ∃ ys : List Str, (asL h2 y = some (ys.map D.str) ∨ y = .tup (ys.map D.str)) ∧ (ys.map (·.length)).sum + ys.length * a.length ≤ 16777216 ∧ Q (.str (Txt.join a ys)) h2
theorem se_join (ho : SE X W o dd) (he : SE X W e de) (hs : starEach [e] X.env = [(false, eval e X.env)] := by rfl) (hbase : attributeBase o "join" X.env (eval o X.env) = eval o X.env := by rfl) (hline : (apos.endLine == pos.line) = true := by rfl) :
    SE X W (.Call (.Attribute o "join" apos) [e] [] pos) (dJoin dd de) := PE.imp (pe_join ho he hs hbase hline) fun σ H Q w => by
  obtain ⟨ρ, σd, h, Xd, Qd, hr, sr, w, kx, k⟩ := w
  refine lE.go hr sr w kx fun ρ1 d1 h1 v1 H1 e1 hr1 sr1 kx1 dv1 w1 => ?_
  obtain ⟨a, rfl, w1⟩ := w1
  have ev : v1 = .str a := dv1
  subst ev
  refine ⟨⟨a, rfl⟩, lE.go hr1 sr1 w1 kx1 fun ρ2 d2 h2 v2 H2 e2 hr2 sr2 kx2 dv2 w2 => ?_⟩
  obtain ⟨ys, hy, hz, q⟩ := w2
  have fin := k ρ2 (.str (Txt.join a ys)) h2 _ H2 (e1.trans e2) hr2 rfl q
  rcases hy with hy | rfl
  · obtain ⟨p, vs, rfl, hq, ds⟩ := asL_at hr2 dv2 hy
    rw [ds.strs] at hq
    exact ⟨a, p, ys, rfl, rfl, .inl hq, hz, fin⟩
  · obtain ⟨p, vs, rfl, hq, ds⟩ := dv2
    have := ds.strs
    subst this
    exact ⟨a, p, ys, rfl, rfl, .inr hq.sq, hz, fin⟩
end
/-! ### is True, is False -/
def isBl (b : Bool) : D → Bool
  | .bl c => c == b
  | _ => false
def dIsB (neg : Bool) : D2 := fun x y h Q => ∃ b, y = .bl b ∧ Q (.bl (if neg then !isBl b x else isBl b x)) h
section
variable {X : Cx} {W : WX} {a b : Expr} {da db : DE} {pos : Pos}
theorem plain_bl {x : V} {v : Value} {b : Bool} (r : RelV x v) : plainIs v (.bool b) = true := by
  cases x <;> first
    | (obtain ⟨t, rfl⟩ := r; rfl)
    | (obtain rfl : v = _ := r; rfl)
theorem op_isBl : OpR X (compareOp .Is) (fun x y H Q => ∃ b, y = .bl b ∧ Q (.bl (decide (x = .bl b))) H) := by
  intro pins s σ H x y v u Q I rx ry h
  obtain ⟨b, rfl, q⟩ := h
  cases (show u = Value.bool b from ry)
  by_cases e : x = .bl b
  · subst e
    cases (show v = Value.bool b from rx)
    exact wpAny_is_self (by cases b <;> rfl) ⟨.bl true, H, I, rfl, by simpa using q⟩
  · refine wpAny_is_other (plain_bl rx) (fun z => e ?_) ⟨.bl false, H, I, rfl, by simpa [e] using q⟩
    subst z
    cases x <;> first | (cases rx; rfl) | (obtain ⟨_, z⟩ := rx; cases z) | cases rx
theorem op_notBl : OpR X (compareOp .IsNot) (fun x y H Q => ∃ b, y = .bl b ∧ Q (.bl (!decide (x = .bl b))) H) := by
  intro pins s σ H x y v u Q I rx ry h
  obtain ⟨b, rfl, q⟩ := h
  cases (show u = Value.bool b from ry)
  by_cases e : x = .bl b
  · subst e
    cases (show v = Value.bool b from rx)
    exact wpAny_isNot_self (by cases b <;> rfl) ⟨.bl false, H, I, rfl, by simpa using q⟩
  · refine wpAny_isNot_other (plain_bl rx) (fun z => e ?_) ⟨.bl true, H, I, rfl, by simpa [e] using q⟩
    subst z
    cases x <;> first | (cases rx; rfl) | (obtain ⟨_, z⟩ := rx; cases z) | cases rx
theorem isBl_at {K : PySem.W.Frag} {ρ : List Addr} {H : Hp} {x : D} {v : V} {b : Bool} (dx : DV K ρ H x v) : decide (v = .bl b) = isBl b x := by
  cases x with
  | bl c => have z : v = .bl c := dx; subst z; cases b <;> cases c <;> rfl
  | non => have z : v = .non := dx; subst z; rfl
  | int i => have z : v = .int i := dx; subst z; rfl
  | str i => have z : v = .str i := dx; subst z; rfl
  | tup l => obtain ⟨a, vs, rfl, _⟩ := dx; rfl
  | lst l => obtain ⟨a, vs, rfl, _⟩ := dx; rfl
  | fz l => obtain ⟨a, vs, rfl, _⟩ := dx; rfl
  | ref i => obtain ⟨a, rfl, _⟩ := dx; rfl
  | obj c fs => obtain ⟨a, dx, ws, rfl, _⟩ := dx; rfl
  | ty n => have z : v = .ty n := dx; subst z; rfl
  | cls c => have z : v = .ref _ := dx; subst z; rfl
  | exn _ _ _ _ => obtain ⟨rfl, _⟩ := dx; rfl
theorem L_isBl {K : PySem.W.Frag} : L2ok K (dIsB false) (fun x y H Q => ∃ b, y = .bl b ∧ Q (.bl (decide (x = .bl b))) H) := by
  intro ρ h H x y vx vy Qd Q hr dx dy w k
  obtain ⟨b, rfl, q⟩ := w
  refine ⟨b, dy, ?_⟩
  rw [isBl_at dx]
  exact k ρ (.bl _) h _ H .refl hr rfl q
theorem L_notBl {K : PySem.W.Frag} : L2ok K (dIsB true) (fun x y H Q => ∃ b, y = .bl b ∧ Q (.bl (!decide (x = .bl b))) H) := by
  intro ρ h H x y vx vy Qd Q hr dx dy w k
  obtain ⟨b, rfl, q⟩ := w
  refine ⟨b, dy, ?_⟩
  rw [isBl_at dx]
  exact k ρ (.bl _) h _ H .refl hr rfl q
theorem se_isB (ha : SE X W a da) (hb : SE X W b db) : SE X W (.Compare a [.Is] [b] pos) (dOp (dIsB false) da db) := se_cmp op_isBl L_isBl ha hb
theorem se_notB (ha : SE X W a da) (hb : SE X W b db) : SE X W (.Compare a [.IsNot] [b] pos) (dOp (dIsB true) da db) := se_cmp op_notBl L_notBl ha hb
theorem st_isB (ha : SE X W a da) (hb : SE X W b db) : ST X W (.Compare a [.Is] [b] pos) (dTst (dOp (dIsB false) da db)) := st_cmp op_isBl L_isBl ha hb
theorem st_notB (ha : SE X W a da) (hb : SE X W b db) : ST X W (.Compare a [.IsNot] [b] pos) (dTst (dOp (dIsB true) da db)) := st_cmp op_notBl L_notBl ha hb
end
/-! ### zip of two -/
def zpD : List D → List D → List D
  | x :: l, y :: m => .tup [x, y] :: zpD l m
  | _, _ => []
theorem zpD_get : ∀ (l m : List D) (i : Nat) (d : D), (zpD l m)[i]? = some d → ∃ x y, l[i]? = some x ∧ m[i]? = some y ∧ d = .tup [x, y]
  | [], _, _, _, h => by simp [zpD] at h
  | _ :: _, [], _, _, h => by simp [zpD] at h
  | x :: l, y :: m, 0, d, h => by simp [zpD] at h; exact ⟨x, y, rfl, rfl, h.symm⟩
  | x :: l, y :: m, i + 1, d, h => by
    obtain ⟨a, b, h1, h2, h3⟩ := zpD_get l m i d (by simpa [zpD] using h)
    exact ⟨a, b, by simpa using h1, by simpa using h2, h3⟩
theorem zpD_length : ∀ (l m : List D), (zpD l m).length = min l.length m.length
  | [], _ => by simp [zpD]
  | _ :: _, [] => by simp [zpD]
  | x :: l, y :: m => by simp [zpD, zpD_length l m]
theorem it_zipL {K : PySem.W.Frag} {ρ0 : List Addr} {H0 : Hp} {a b : Addr} {l m : List D} {G : DHp → Prop} (hq : ∀ ρ h H, Ext ρ0 H0 ρ H → HR K ρ h H → G h → ∃ vs us, SqL K H a vs ∧ DVs K ρ H l vs ∧ SqL K H b us ∧ DVs K ρ H m us) : ItAt K ρ0 H0 (zpD l m) G (Itz K a b) := by
  intro ρ h H i e hr g
  obtain ⟨vs, us, q1, d1, q2, d2⟩ := hq ρ h H e hr g
  refine ⟨fun d hd => ?_, fun hl => ⟨vs, us, q1, q2, by rw [zpD_length] at hl; rw [d1.length, d2.length]; omega⟩⟩
  obtain ⟨x, y, hx, hy, rfl⟩ := zpD_get l m i d hd
  obtain ⟨v, hv, dv⟩ := d1.get hx
  obtain ⟨u, hu, du⟩ := d2.get hy
  refine ⟨⟨vs, us, v, u, q1, q2, hv, hu⟩, fun z H' yl => ?_⟩
  obtain ⟨T, x', y', rfl, np, rfl, z1, z2⟩ := yl
  have w1 := z1 vs q1
  have w2 := z2 us q2
  rw [hv] at w1; cases w1
  rw [hu] at w2; cases w2
  exact ⟨.new1 np, hr.new1 np, .tupNew hr np ⟨_, _, rfl, dv, _, [], rfl, du, rfl⟩⟩
theorem it_zipT {K : PySem.W.Frag} {ρ0 : List Addr} {H0 : Hp} {a b : Addr} {l m : List D} {G : DHp → Prop} (hq : ∀ ρ h H, Ext ρ0 H0 ρ H → HR K ρ h H → G h → ∃ vs us, SqT K H a vs ∧ DVs K ρ H l vs ∧ SqT K H b us ∧ DVs K ρ H m us) : ItAt K ρ0 H0 (zpD l m) G (RZ.ItzT K a b) := by
  intro ρ h H i e hr g
  obtain ⟨vs, us, q1, d1, q2, d2⟩ := hq ρ h H e hr g
  refine ⟨fun d hd => ?_, fun hl => ⟨vs, us, q1, q2, by rw [zpD_length] at hl; rw [d1.length, d2.length]; omega⟩⟩
  obtain ⟨x, y, hx, hy, rfl⟩ := zpD_get l m i d hd
  obtain ⟨v, hv, dv⟩ := d1.get hx
  obtain ⟨u, hu, du⟩ := d2.get hy
  refine ⟨⟨vs, us, v, u, q1, q2, hv, hu⟩, fun z H' yl => ?_⟩
  obtain ⟨T, x', y', rfl, np, rfl, z1, z2⟩ := yl
  have w1 := z1 vs q1
  have w2 := z2 us q2
  rw [hv] at w1; cases w1
  rw [hu] at w2; cases w2
  exact ⟨.new1 np, hr.new1 np, .tupNew hr np ⟨_, _, rfl, dv, _, [], rfl, du, rfl⟩⟩
/-- both tuples, or both lists (changing ones must stand) -/
def iZipD (ts : DA) : DI := fun σ h X Q => ts σ h X fun ds h1 => ∃ x y, ds = [x, y] ∧ ((∃ l m, x = .tup l ∧ y = .tup m ∧ Q (zpD l m) (fun _ => True) h1) ∨ ∃ l m, asL h1 x = some l ∧ asL h1 y = some m ∧ Q (zpD l m) (fun h => asL h x = some l ∧ asL h y = some m) h1)
section
variable {X : Cx} {W : WX} {p pos tpos : Pos} {e e2 : Expr} {ts : DA} {elts : List Expr} {kk : Nat}
theorem si_zip (hm : X.mg "zip" = none) (ha : SA X W [e, e2] ts) (hg : Gl X "zip" := by rfl) (hs : starEach [e, e2] X.env = (false, eval e X.env) :: starEach [e2] X.env := by rfl) (hpl : (backTo pos (starEach [e2] X.env)).any (·.1) = false := by rfl) :
    SI X W (.Tuple elts kk tpos) (.Call (.Name "zip" p) [e, e2] [] pos) (iZipD ts) :=
  PI.imp (RZ.pi_zipA hg hm ha hs hpl) fun σ H R w => by
    obtain ⟨ρ, σd, h, Xd, Qd, hr, sr, w, kx, k⟩ := w
    refine ⟨ρ, σd, h, Xd, _, hr, sr, w, kx, fun ρ1 ds h1 vs H1 e1 hr1 dvs q => ?_⟩
    obtain ⟨x, y, rfl, q⟩ := q
    obtain ⟨v, v', rfl, d1, d2⟩ := dvs.bi
    rcases q with ⟨l, m, rfl, rfl, q⟩ | ⟨l, m, el, em, q⟩
    · obtain ⟨a, ws, rfl, hq, dl⟩ := d1
      obtain ⟨b, us, rfl, hq2, dm⟩ := d2
      exact ⟨a, b, ws, us, rfl, .inr ⟨hq.sq, hq2.sq, k ρ1 _ _ h1 _ H1 e1 hr1 (it_zipT fun ρ2 h2 H2 e2 hr2 g2 => ⟨ws, us, (hq.ext e2).sq, DVs.ext e2 _ _ dl, (hq2.ext e2).sq, DVs.ext e2 _ _ dm⟩) q⟩⟩
    · obtain ⟨a, ws, rfl, hq, dl⟩ := asL_at hr1 d1 el
      obtain ⟨b, us, rfl, hq2, dm⟩ := asL_at hr1 d2 em
      refine ⟨a, b, ws, us, rfl, .inl ⟨hq, hq2, k ρ1 _ _ h1 _ H1 e1 hr1 (it_zipL fun ρ2 h2 H2 e2 hr2 g2 => ?_) q⟩⟩
      obtain ⟨a', vs', e', hq', dvs'⟩ := asL_at hr2 (d1.ext e2) g2.1
      obtain ⟨b', us', e2', hq2', dus'⟩ := asL_at hr2 (d2.ext e2) g2.2
      cases e'
      cases e2'
      exact ⟨vs', us', hq', dvs', hq2', dus'⟩
end
end L2.MW

/-! MW, part Z: enumerate of a tuple. -/
namespace L2.MW
open PySem PySem.Spec PyProof.Rows
theorem args_en1 (a : Value) : checkTypeCall "enumerate" ⟨[a], []⟩ = pure () := F.typeCall_enumerate_1 a
theorem en_tupMeets (t : Addr) (items : Array Value) :
    Meets (Builtin.«enumerate.__new__» ⟨[.type "enumerate", .ref t], []⟩) (fun _ R s => s.heap.IsTuple t items ∧
      R (.ok (.ret (.ref (s.heap.objs.size + 1)))) { s with heap := (s.heap.push { cls := .type "tuple_iterator", data := .fields #[.ref t, .int 0 0] }).push { cls := .type "enumerate", data := .fields #[.none, .bool false, .ref s.heap.objs.size, rawInt 0, .none, .none] } }) :=
  .of_wp fun prog w A R s h => by
    obtain ⟨hp, g, d, tk, os⟩ := s
    obtain ⟨ht, h⟩ := h
    have below := sub_enumerate
    have size1 : (hp.push { cls := .type "tuple_iterator", data := .fields #[.ref t, .int 0 0] }).objs.size = hp.objs.size + 1 := Heap.size_push ..
    have start : ∀ {A' : Around} {E : Value → Shared → Prop} {Q : Value → Shared → Prop}, Q (.ref hp.objs.size) ⟨hp.push { cls := .type "tuple_iterator", data := .fields #[.ref t, .int 0 0] }, g, d, tk, os⟩ → wpAny (model prog w) A' (pyIter (.ref t)) Q E ⟨hp, g, d, tk, os⟩ :=
      fun q => wpAny_pyIter_tuple ht q
    have fin : R (.ok (.ret (.ref (hp.push { cls := .type "tuple_iterator", data := .fields #[.ref t, .int 0 0] }).objs.size))) ⟨(hp.push { cls := .type "tuple_iterator", data := .fields #[.ref t, .int 0 0] }).push { cls := .type "enumerate", data := .fields #[.none, .bool false, .ref hp.objs.size, rawInt 0, .none, .none] }, g, d, tk, os⟩ := by rw [size1]; exact h
    wp_walk using start
    refine wpAny_stack_any fun st => wpAny_pure ?_
    split
    · rename_i c _ _ _ _ _
      generalize (c == Value.type "enumerate") = cc
      cases cc <;> (wp_walk using start; exact ⟨_, rfl, fin⟩)
    · wp_walk using start
      exact ⟨_, rfl, fin⟩
theorem en_tupCall {prog : Program} {w : World} {A : Around} {E : Value → Shared → Prop} {s : Shared} {t : Addr} {items : Array Value} {Q : Value → Shared → Prop} (ht : s.heap.IsTuple t items)
    (h : ∀ h', IsEnum h' (s.heap.objs.size + 1) s.heap.objs.size 0 .none → h'.IsTupleIter s.heap.objs.size t 0 → (∀ b o, s.heap.get? b = some o → h'.get? b = some o) → Q (.ref (s.heap.objs.size + 1)) { s with heap := h' }) :
    wpAny (model prog w) A (call (.type "enumerate") [.ref t]) Q E s := by
  refine callType_new F.called_enumerate (by decide) (args_en1 _) (F.newCall_enumerate_1 _) (fun obj => F.args_object_init_2 obj _) F.entry_enumerate_new (en_tupMeets t items) ⟨ht, ?_⟩
  have size1 : (s.heap.push { cls := .type "tuple_iterator", data := .fields #[.ref t, .int 0 0] }).objs.size = s.heap.objs.size + 1 := Heap.size_push ..
  have cell : ((s.heap.push { cls := .type "tuple_iterator", data := .fields #[.ref t, .int 0 0] }).push { cls := .type "enumerate", data := .fields #[.none, .bool false, .ref s.heap.objs.size, rawInt 0, .none, .none] }).get? (s.heap.objs.size + 1) = some { cls := .type "enumerate", data := .fields #[.none, .bool false, .ref s.heap.objs.size, rawInt 0, .none, .none] } := by
    rw [← size1]
    exact Heap.get?_push_size _ rfl
  exact ⟨⟨_, cell, rfl⟩, h _ cell ⟨_, Heap.get?_push_of_some _ (Heap.get?_push_size _ rfl), rfl, rfl⟩ fun b o x => Heap.get?_push_of_some _ (Heap.get?_push_of_some _ x)⟩
/-- the tuple at a, as it stands at each turn, with the number of the turn -/
def IteT (K : PySem.W.Frag) (a : Addr) : It where
  go := fun i H => ∃ (xs : List V) (x : V), SqT K H a xs ∧ xs[i]? = some x
  yld := fun i H v H' => ∃ T x, v = .ref T ∧ H T = none ∧ H' = upd H T (.tup [.int (i : Nat), x]) ∧ ∀ xs, SqT K H a xs → xs[i]? = some x
  stop := fun i H => ∃ xs : List V, SqT K H a xs ∧ xs.length ≤ i
theorem turn_enT {P : Program} {w : World} {K : PySem.W.Frag} {elts : List Expr} {kk : Nat} {tpos : Pos} (a e it : Addr) :
    Turn P w K (.Tuple elts kk tpos) (IteT K a) [e, it] e (fun i h => (∃ old, IsEnum h e it ((i : Nat) : Int) old) ∧ h.IsTupleIter it a i ∧ e ≠ it ∧ a ≠ it ∧ e ≠ a) where
  mem := List.mem_cons_self
  obj := fun i h st b hb => by
    obtain ⟨⟨old, he⟩, ⟨o, ho, hc, hd⟩, _⟩ := st
    rcases List.mem_cons.mp hb with rfl | hb
    · exact ⟨_, he, fun v q => nomatch q⟩
    · rw [List.mem_singleton.mp hb]
      exact ⟨o, ho, fun v q => by rw [hd] at q; cases q⟩
  keep := fun i h h' st k => let ⟨⟨old, he⟩, hi, r⟩ := st; ⟨⟨old, k e List.mem_cons_self _ he⟩, hi.at fun o q => k it (List.mem_cons_of_mem _ List.mem_cons_self) o q, r⟩
  item := by
    intro X hP hw hK hc i pins s σ H E I hf st hg
    subst hP hw hK
    obtain ⟨⟨old, he⟩, hit, hne, hai, hea⟩ := st
    obtain ⟨xs, x, hq, hx⟩ := hg
    obtain ⟨its, rv, p, hz⟩ := I.tuple hq
    obtain ⟨u, hu, ru⟩ := rv.get hx
    have hel : e < s.heap.objs.size := Heap.lt_size he
    have hil : it < s.heap.objs.size := by obtain ⟨_, q, _⟩ := hit; exact Heap.lt_size q
    have hlt : i < its.toArray.size := by rw [List.size_toArray]; exact (List.getElem?_eq_some_iff.mp hu).1
    refine wpAny_pyNext_enum_itemC (Draws.tuple (prog := X.prog) (w := X.w) (A := X.A.in1) (show X.A.in1.handled = none from I.ok.hd hc) it a hai its.toArray) he ⟨hit, p⟩ hlt hne (fun z => by
      rcases List.mem_cons.mp z with z | z
      · exact hne z
      · exact hea (List.mem_singleton.mp z)) fun y h' tk hy ho hit' hT hsz hk => ?_
    have ey : y = u := by
      have z : its.toArray[i]? = some u := by simpa using hu
      rw [z] at hy
      exact (Option.some.inj hy).symm
    subst ey
    refine ⟨_, rfl, wpAny_letOwnedTupleGo_enum (s := { s with heap := h', toks := tk + 1 }) ho fun h'' he' sb => ?_⟩
    have hT2 : h''.get? s.heap.objs.size = some { cls := .type "tuple", data := .seq #[.int i tk, y] } := (sb.2 _ (Nat.ne_of_gt hel)).trans hT
    have new : ObjOk X.prog X.w (upd H s.heap.objs.size (.tup [.int (i : Nat), x])) h'' s.heap.objs.size (.tup [.int (i : Nat), x]) :=
      ⟨by show 2 ≤ sizeLine; decide, [.int i tk, y], .cons ⟨_, rfl⟩ (.cons ru .nil), ⟨_, hT2, rfl, _, rfl⟩⟩
    have far : ∀ b, b ∉ [e, it] → b ≠ e ∧ b ≠ it := fun b hb => ⟨fun z => hb (z ▸ List.mem_cons_self), fun z => hb (z ▸ List.mem_cons_of_mem _ List.mem_cons_self)⟩
    have I1 : Inv X pins σ (upd H s.heap.objs.size (.tup [.int (i : Nat), x])) { s with heap := h'', toks := tk + 1 } :=
      I.turnedNew (ch := [e, it]) (fun b ob hb q => (sb.2 b (far b hb).1).trans (hk b ob (far b hb).1 (far b hb).2 q)) hf (Nat.le_refl _) new
    refine ⟨.ref s.heap.objs.size, _, I1, rfl, ⟨_, x, rfl, I.hok.fresh (Nat.le_refl _), rfl, fun ys hy => by rw [I.tuple_inj hy hq]; exact hx⟩, ⟨⟨y, ?_⟩, hit'.1.at fun o q => (sb.2 it (Ne.symm hne)).trans q, hne, hai, hea⟩, fun b hb => ?_⟩
    · rw [show ((i + 1 : Nat) : Int) = (i : Int) + 1 from by omega]; exact he'
    · have hb' : b < s.heap.objs.size := by
        rcases List.mem_cons.mp hb with rfl | hb
        · exact hel
        · rw [List.mem_singleton.mp hb]; exact hil
      rw [upd_ne (Nat.ne_of_lt hb')]
      exact (hf b hb).1
  done := by
    intro X hP hw hK hc i pins s σ H E I hf st hg
    subst hP hw hK
    obtain ⟨⟨old, he⟩, hit, hne, hai, hea⟩ := st
    obtain ⟨xs, hq, hx⟩ := hg
    obtain ⟨its, rv, p, hz⟩ := I.tuple hq
    obtain ⟨f0, f1, f2, f3, f4, f5⟩ := hf it (List.mem_cons_of_mem _ List.mem_cons_self)
    have hl := rv.length
    have out : its.toArray[i]? = none := by simp; omega
    have hT : s.TypeIs (.ref e) "enumerate" := ⟨_, he, rfl⟩
    unfold pyNext
    refine wpAny_bind (wpAny_attempt (wpAny_callSpecial?_slot (name := Str.ofString "__next__") hT F.slot_enumerate_next (wpAny_call_entry F.slot_enumerate_next hT F.entry_enumerate_next ?_ (F.args_enumerate_next_1 _))))
    show wpAny _ _ (field (.ref e) 2 >>= _) _ _ _
    refine wpAny_bind (wpAny_field he rfl (x := .ref it) rfl ?_)
    refine wpAny_bind (wpAny_nextOf_tuple_end (I.ok.hd hc) hit p out fun h' x eb hx' => ?_)
    obtain ⟨o, ho, hc'⟩ := hx'
    refine wpAny_bind (wpAny_isInstance (T := "StopIteration") (b := true) ⟨o, ho, hc'⟩ isSubtype_stop ?_)
    exact wpAny_pure ⟨rfl, I.turned (t' := s.toks) (fun b o hb q => eb b o hb q) f0 f1 f3 f4 f5⟩
  self := fun A i s Q E st h => let ⟨⟨_, he⟩, _⟩ := st; wpAny_pyIter_enum he h
def iEnT (K : PySem.W.Frag) (ta : TA) : TI := fun σ H R => ta σ H fun vs H1 => ∃ a xs, vs = [.ref a] ∧ SqT K H1 a xs ∧ R (IteT K a) H1
theorem pi_enT {X : Cx} {e : Expr} {ta : TA} {p pos tpos : Pos} {elts : List Expr} {kk : Nat} (hg : Gl X "enumerate") (hm : X.mg "enumerate" = none) (ha : PA X [e] ta) (hs : starEach [e] X.env = [(false, eval e X.env)] := by rfl) :
    PI X (.Tuple elts kk tpos) (.Call (.Name "enumerate" p) [e] [] pos) (iEnT X.K ta) := by
  refine ⟨fun pins s σ H R I h => ?_⟩
  refine Call_ (ld_blt I hg hm boot_enumerate (PyProof.Rows.callWith_type1 (thn (ha.run pos pins s σ H _ I h) fun us s1 ⟨vs, H1, I1, r1, q1⟩ => ?_) hs rfl))
  obtain ⟨a, xs, rfl, hq, q⟩ := q1
  cases r1 with
  | cons r rr =>
    cases rr
    cases r
    obtain ⟨its, rv, p', hz⟩ := I1.tuple hq
    obtain ⟨oa, hoa, _⟩ := id p'
    have hal : a < s1.heap.objs.size := Heap.lt_size hoa
    refine en_tupCall p' fun h' he hit hk => wpAny_pyIter_enum he ?_
    have I2 : Inv X pins σ H1 { s1 with heap := h' } := I1.kept (t' := s1.toks) hk
    refine ⟨s1.heap.objs.size + 1, [s1.heap.objs.size + 1, s1.heap.objs.size], _, _, H1, rfl, I2, turn_enT a (s1.heap.objs.size + 1) s1.heap.objs.size, ⟨⟨.none, he⟩, hit, Nat.succ_ne_self _, Nat.ne_of_lt hal, Ne.symm (Nat.ne_of_lt (Nat.lt_succ_of_lt hal))⟩, fun b hb => ?_, q⟩
    have hle : s1.heap.objs.size ≤ b := by
      rcases List.mem_cons.mp hb with rfl | hb
      · exact Nat.le_succ _
      · rw [List.mem_singleton.mp hb]; exact Nat.le_refl _
    exact I1.fpOk hle (I1.hok.fresh hle)
theorem it_enT {K : PySem.W.Frag} {ρ0 : List Addr} {H0 : Hp} {a : Addr} {l : List D} {G : DHp → Prop} (hq : ∀ ρ h H, Ext ρ0 H0 ρ H → HR K ρ h H → G h → ∃ vs, SqT K H a vs ∧ DVs K ρ H l vs) : ItAt K ρ0 H0 (enD 0 l) G (IteT K a) := by
  intro ρ h H i e hr g
  obtain ⟨vs, q, dvs⟩ := hq ρ h H e hr g
  refine ⟨fun d hd => ?_, fun hl => ⟨vs, q, by rw [dvs.length]; rw [enD_length] at hl; exact hl⟩⟩
  obtain ⟨x, hx, rfl⟩ := enD_get 0 l i d hd
  obtain ⟨v, hv, dv⟩ := dvs.get hx
  refine ⟨⟨vs, v, q, hv⟩, fun u H' y => ?_⟩
  obtain ⟨T, x', rfl, np, rfl, y⟩ := y
  have z := y vs q
  rw [hv] at z; cases z
  refine ⟨.new1 np, hr.new1 np, .tupNew hr np ⟨_, _, by rw [Nat.zero_add], rfl, _, [], rfl, dv, rfl⟩⟩
/-- enumerate of a list or of a tuple -/
abbrev iEnumTD (ts : DA) : DI := fun σ h X Q => ts σ h X fun ds h1 => ∃ l, ds = [.tup l] ∧ Q (enD 0 l) (fun _ => True) h1
theorem si_enumT {X : Cx} {W : WX} {pos p : Pos} {e : Expr} {ts : DA} {elts : List Expr} {kk : Nat} {tpos : Pos} (hm : X.mg "enumerate" = none) (ha : SA X W [e] ts) (hg : Gl X "enumerate" := by rfl) (hs : starEach [e] X.env = [(false, eval e X.env)] := by rfl) :
    SI X W (.Tuple elts kk tpos) (.Call (.Name "enumerate" p) [e] [] pos) (iEnumTD ts) :=
  PI.imp (pi_enT hg hm ha hs) fun σ H R w => by
    obtain ⟨ρ, σd, h, Xd, Qd, hr, sr, w, kx, k⟩ := w
    refine ⟨ρ, σd, h, Xd, _, hr, sr, w, kx, fun ρ1 ds h1 vs H1 e1 hr1 dvs q => ?_⟩
    obtain ⟨l, rfl, q⟩ := q
    obtain ⟨v, rfl, dv⟩ := dvs.un
    obtain ⟨a, ws, rfl, hq, dl⟩ := dv
    exact ⟨a, ws, rfl, hq.sq, k ρ1 _ _ h1 _ H1 e1 hr1 (it_enT fun ρ2 h2 H2 e2 hr2 g2 => ⟨ws, (hq.ext e2).sq, DVs.ext e2 _ _ dl⟩) q⟩
theorem uuH {k : Nat} {A : Around} (r : L2H.RoomH k A) : A.units + 64 < cLine := by have := r.un; omega
theorem uuH1 {k : Nat} {A : Around} (r : L2H.RoomH k A) : A.units + 65 < cLine := by have := r.un; omega
theorem uuH0 {k : Nat} {A : Around} (r : L2H.RoomH k A) : A.units < cLine := by have := r.un; omega
/-! ### a list or a tuple -/
/-- the walk over a list's or a tuple's items, whichever it is -/
def iAny (K : PySem.W.Frag) (te : TE) : TI := fun σ H R => te σ H fun x H1 => ∃ a, x = .ref a ∧ (((∃ xs, SqL K H1 a xs) ∧ R (Itl K a) H1) ∨ ((∃ xs, SqT K H1 a xs) ∧ R (Itt K a) H1))
theorem pi_any {X : Cx} {tg e : Expr} {te : TE} (he : PE X e te) : PI X tg e (iAny X.K te) := ⟨fun pins s σ H R I h => by
  refine thn (he.run pins s σ H _ I h) fun u t1 ⟨y, G, J, ry, a, ey, w⟩ => ?_
  subst ey
  cases ry
  have sole : ∀ b ∈ [t1.heap.objs.size], b = t1.heap.objs.size := fun b hb => List.mem_singleton.mp hb
  rcases w with ⟨⟨xs, hs⟩, w⟩ | ⟨⟨xs, hs⟩, w⟩
  · obtain ⟨its, _, p, _⟩ := J.list hs
    exact wpAny_pyIter_list p.isList ⟨_, [t1.heap.objs.size], _, _, G, rfl, J.kept (t' := t1.toks) fun b o z => Heap.get?_push_of_some _ z, turn_list a _, ⟨_, Heap.get?_push_size _ rfl, rfl, rfl⟩, fun b hb => by
      rw [sole b hb]; exact J.fpOk (Nat.le_refl _) (J.hok.fresh (Nat.le_refl _)), w⟩
  · obtain ⟨its, _, p, _⟩ := J.tuple hs
    exact wpAny_pyIter_tuple (items := its.toArray) p ⟨_, [t1.heap.objs.size], _, _, G, rfl, J.kept (t' := t1.toks) fun b o z => Heap.get?_push_of_some _ z, turn_tuple a _, ⟨_, Heap.get?_push_size _ rfl, rfl, rfl⟩, fun b hb => by
      rw [sole b hb]; exact J.fpOk (Nat.le_refl _) (J.hok.fresh (Nat.le_refl _)), w⟩⟩
/-- enumerate of either -/
def iEnAny (K : PySem.W.Frag) (ta : TA) : TI := fun σ H R => ta σ H fun vs H1 => ∃ a, vs = [.ref a] ∧ (((∃ xs, SqL K H1 a xs) ∧ R (Ite K a) H1) ∨ ((∃ xs, SqT K H1 a xs) ∧ R (IteT K a) H1))
theorem pi_enAny {X : Cx} {e : Expr} {ta : TA} {p pos tpos : Pos} {elts : List Expr} {kk : Nat} (hg : Gl X "enumerate") (hm : X.mg "enumerate" = none) (ha : PA X [e] ta) (hs : starEach [e] X.env = [(false, eval e X.env)] := by rfl) :
    PI X (.Tuple elts kk tpos) (.Call (.Name "enumerate" p) [e] [] pos) (iEnAny X.K ta) := ⟨fun pins s σ H R I h => by
  refine Call_ (ld_blt I hg hm boot_enumerate (PyProof.Rows.callWith_type1 (thn (ha.run pos pins s σ H _ I h) fun us t1 ⟨ys, G, J, ry, a, ey, w⟩ => ?_) hs rfl))
  subst ey
  cases ry with
  | cons r rr =>
    cases rr
    cases r
    have two : ∀ b ∈ [t1.heap.objs.size + 1, t1.heap.objs.size], t1.heap.objs.size ≤ b := fun b hb => by
      rcases List.mem_cons.mp hb with z | z
      · omega
      · have := List.mem_singleton.mp z; omega
    rcases w with ⟨⟨xs, hq⟩, w⟩ | ⟨⟨xs, hq⟩, w⟩
    · obtain ⟨its, _, p', _⟩ := J.list hq
      exact call_enumerate_list p'.isList fun h' he hit _ hk => wpAny_pyIter_enum he ⟨_, [t1.heap.objs.size + 1, t1.heap.objs.size], _, _, G, rfl, J.kept (t' := t1.toks) hk, turn_enum a (t1.heap.objs.size + 1) t1.heap.objs.size, ⟨⟨.none, he⟩, hit, Nat.succ_ne_self _⟩, fun b hb => J.fpOk (two b hb) (J.hok.fresh (two b hb)), w⟩
    · obtain ⟨its, _, p', _⟩ := J.tuple hq
      obtain ⟨oa, hoa, _⟩ := id p'
      have hal : a < t1.heap.objs.size := Heap.lt_size hoa
      exact en_tupCall p' fun h' he hit hk => wpAny_pyIter_enum he ⟨_, [t1.heap.objs.size + 1, t1.heap.objs.size], _, _, G, rfl, J.kept (t' := t1.toks) hk, turn_enT a (t1.heap.objs.size + 1) t1.heap.objs.size,
        ⟨⟨.none, he⟩, hit, Nat.succ_ne_self _, Nat.ne_of_lt hal, Ne.symm (Nat.ne_of_lt (Nat.lt_succ_of_lt hal))⟩, fun b hb => J.fpOk (two b hb) (J.hok.fresh (two b hb)), w⟩⟩
/-- a tuple stands; a list must stand at each turn -/
def gdS (d : D) (l : List D) : DHp → Prop := fun h => asS h d = some l
def iS (de : DE) : DI := fun σ h X Q => de σ h X fun d h1 => ∃ l, asS h1 d = some l ∧ Q l (gdS d l) h1
def iEnS (ts : DA) : DI := fun σ h X Q => ts σ h X fun ds h1 => ∃ d l, ds = [d] ∧ asS h1 d = some l ∧ Q (enD 0 l) (gdS d l) h1
theorem seq_cases {K : PySem.W.Frag} {ρ : List Addr} {h : DHp} {H : Hp} {d : D} {v : V} {l : List D} (hr : HR K ρ h H) (dv : DV K ρ H d v) (e : asS h d = some l) :
    (∃ a vs, v = .ref a ∧ SqL K H a vs ∧ ∀ ρ2 h2 H2, Ext ρ H ρ2 H2 → HR K ρ2 h2 H2 → gdS d l h2 → ∃ us, SqL K H2 a us ∧ DVs K ρ2 H2 l us) ∨
    (∃ a vs, v = .ref a ∧ SqT K H a vs ∧ ∀ ρ2 h2 H2, Ext ρ H ρ2 H2 → HR K ρ2 h2 H2 → gdS d l h2 → ∃ us, SqT K H2 a us ∧ DVs K ρ2 H2 l us) := by
  have lists : (∀ h2, asS h2 d = asL h2 d) → (∃ a vs, v = .ref a ∧ SqL K H a vs ∧ ∀ ρ2 h2 H2, Ext ρ H ρ2 H2 → HR K ρ2 h2 H2 → gdS d l h2 → ∃ us, SqL K H2 a us ∧ DVs K ρ2 H2 l us) := fun eq => by
    obtain ⟨a, vs, rfl, hq, dvs⟩ := asL_at hr dv ((eq h).symm.trans e)
    refine ⟨a, vs, rfl, hq, fun ρ2 h2 H2 e2 hr2 g => ?_⟩
    obtain ⟨a', us, e', hq', dus⟩ := asL_at hr2 (dv.ext e2) ((eq h2).symm.trans g)
    cases e'
    exact ⟨us, hq', dus⟩
  cases d with
  | tup m =>
    cases e
    obtain ⟨a, vs, rfl, hq, dvs⟩ := dv
    exact .inr ⟨a, vs, rfl, hq.sq, fun ρ2 h2 H2 e2 hr2 g => ⟨vs, (hq.ext e2).sq, DVs.ext e2 _ _ dvs⟩⟩
  | _ => exact .inl (lists fun _ => rfl)
theorem si_any {X : Cx} {W : WX} {tg e : Expr} {de : DE} (he : SE X W e de) : SI X W tg e (iS de) := PI.imp (pi_any he) fun σ H R w => by
  obtain ⟨ρ, σd, h, Xd, Qd, hr, sr, w, kx, k⟩ := w
  refine ⟨ρ, σd, h, Xd, _, hr, sr, w, kx, fun ρ1 d h1 v H1 e1 hr1 dv q => ?_⟩
  obtain ⟨l, el, q⟩ := q
  rcases seq_cases hr1 dv el with ⟨a, vs, rfl, hq, go⟩ | ⟨a, vs, rfl, hq, go⟩
  · exact ⟨a, rfl, .inl ⟨⟨vs, hq⟩, k ρ1 l _ h1 _ H1 e1 hr1 (it_list go) q⟩⟩
  · exact ⟨a, rfl, .inr ⟨⟨vs, hq⟩, k ρ1 l _ h1 _ H1 e1 hr1 (it_tup go) q⟩⟩
theorem si_enAny {X : Cx} {W : WX} {pos p : Pos} {e : Expr} {ts : DA} {elts : List Expr} {kk : Nat} {tpos : Pos} (hm : X.mg "enumerate" = none) (ha : SA X W [e] ts) (hg : Gl X "enumerate" := by rfl) (hs : starEach [e] X.env = [(false, eval e X.env)] := by rfl) :
    SI X W (.Tuple elts kk tpos) (.Call (.Name "enumerate" p) [e] [] pos) (iEnS ts) := PI.imp (pi_enAny hg hm ha hs) fun σ H R w => by
  obtain ⟨ρ, σd, h, Xd, Qd, hr, sr, w, kx, k⟩ := w
  refine ⟨ρ, σd, h, Xd, _, hr, sr, w, kx, fun ρ1 ds h1 vs H1 e1 hr1 dvs q => ?_⟩
  obtain ⟨d, l, rfl, el, q⟩ := q
  obtain ⟨v, rfl, dv⟩ := dvs.un
  rcases seq_cases hr1 dv el with ⟨a, vs, rfl, hq, go⟩ | ⟨a, vs, rfl, hq, go⟩
  · exact ⟨a, rfl, .inl ⟨⟨vs, hq⟩, k ρ1 _ _ h1 _ H1 e1 hr1 (it_enum go) q⟩⟩
  · exact ⟨a, rfl, .inr ⟨⟨vs, hq⟩, k ρ1 _ _ h1 _ H1 e1 hr1 (it_enT go) q⟩⟩
end L2.MW

/-! MW, part Q: plain data, numbers, pairs, words: what the laws speak of. -/
namespace L2.MW
open PySem PySem.Spec PyProof.Rows
/-! ### plain data -/
def plB : D → Bool
  | .non => true
  | .bl _ => true
  | .int _ => true
  | .str _ => true
  | .tup _ => true
  | .lst _ => true
  | .fz _ => true
  | _ => false
def numB : D → Bool
  | .int _ => true
  | _ => false
def tupB : D → Bool
  | .tup _ => true
  | _ => false
def btw (d : D) (lo hi : Int) : Bool := match d with
  | .int i => decide (lo ≤ i) && decide (i ≤ hi)
  | _ => false
def iOf : D → Int
  | .int i => i
  | _ => 0
def isT (d : D) (n : String) : Bool := match tyD [] d with
  | some (.ty a) => (a == n || (a == "bool" && n == "int"))
  | _ => false
theorem tyD_pl {d : D} (p : plB d = true) (h : DHp) : ∃ a, tyD h d = some (.ty a) ∧ tyD [] d = some (.ty a) ∧ a ∈ tys := by
  cases d <;> first | exact ⟨_, rfl, rfl, by decide⟩ | cases p
theorem isi_eq {cs : List String} {d : D} {n : String} {h : DHp} {Q : DK} (p : plB d = true) (hn : n ∈ tys) : nIsi cs [d, .ty n] h Q ↔ Q (.bl (isT d n)) h := by
  obtain ⟨a, e1, e2, ha⟩ := tyD_pl p h
  have e3 : isT d n = (a == n || (a == "bool" && n == "int")) := by unfold isT; rw [e2]
  have e4 : isaD cs (.ty a) (.ty n) = some (a == n || (a == "bool" && n == "int")) := if_pos ⟨ha, hn⟩
  constructor
  · rintro ⟨x, c, t, b, e, ht, _, hb, q⟩
    cases e
    rw [e1] at ht
    cases ht
    have hb' : isaD cs (.ty a) (.ty n) = some b := hb
    rw [e4] at hb'
    cases hb'
    rw [e3]; exact q
  · intro q
    rw [e3] at q
    exact ⟨_, _, _, _, rfl, e1, trivial, e4, q⟩
theorem isi_lt {cs : List String} {d : D} {h : DHp} {Q : DK} (p : plB d = true) : nIsi cs [d, .tup [.ty "list", .ty "tuple"]] h Q ↔ Q (.bl (isT d "list" || isT d "tuple")) h := by
  cases d <;> first
    | cases p; done
    | (constructor
       · rintro ⟨x, c, t, b, e, ht, _, hb, q⟩
         cases e; cases ht; cases hb.2
         exact q
       · intro q
         exact ⟨_, _, _, _, rfl, rfl, trivial, ⟨by intro y hy; simp at hy; rcases hy with rfl | rfl <;> trivial, rfl⟩, q⟩)
theorem isi_tl {cs : List String} {d : D} {h : DHp} {Q : DK} (p : plB d = true) : nIsi cs [d, .tup [.ty "tuple", .ty "list"]] h Q ↔ Q (.bl (isT d "tuple" || isT d "list")) h := by
  cases d <;> first
    | cases p; done
    | (constructor
       · rintro ⟨x, c, t, b, e, ht, _, hb, q⟩
         cases e; cases ht; cases hb.2
         exact q
       · intro q
         exact ⟨_, _, _, _, rfl, rfl, trivial, ⟨by intro y hy; simp at hy; rcases hy with rfl | rfl <;> trivial, rfl⟩, q⟩)
section
variable {cs : List String} {d : D} {h : DHp} {Q : DK}
theorem isi_i (p : plB d = true) : nIsi cs [d, .ty "int"] h Q ↔ Q (.bl (isT d "int")) h := isi_eq p (by decide)
theorem isi_b (p : plB d = true) : nIsi cs [d, .ty "bool"] h Q ↔ Q (.bl (isT d "bool")) h := isi_eq p (by decide)
theorem isi_t (p : plB d = true) : nIsi cs [d, .ty "tuple"] h Q ↔ Q (.bl (isT d "tuple")) h := isi_eq p (by decide)
theorem isi_l (p : plB d = true) : nIsi cs [d, .ty "list"] h Q ↔ Q (.bl (isT d "list")) h := isi_eq p (by decide)
theorem isi_s (p : plB d = true) : nIsi cs [d, .ty "str"] h Q ↔ Q (.bl (isT d "str")) h := isi_eq p (by decide)
theorem isT_tup (p : plB d = true) : isT d "tuple" = tupB d := by cases d <;> first | rfl | cases p
theorem isT_num (p : plB d = true) : (isT d "int" && !isT d "bool") = numB d := by cases d <;> first | rfl | cases p
end
/-- data without places, of some depth -/
def sameD : Nat → D → Prop
  | 0, _ => False
  | n + 1, .tup l => l.length ≤ 100000 ∧ ∀ x ∈ l, sameD n x
  | n + 1, .lst l => l.length ≤ 100000 ∧ ∀ x ∈ l, sameD n x
  | _ + 1, .non => True
  | _ + 1, .bl _ => True
  | _ + 1, .int _ => True
  | _ + 1, .str x => PyData.strOk x = true
  | _ + 1, _ => False
theorem sameD.pl {n : Nat} {d : D} (h : sameD n d) : plB d = true := by
  cases n with
  | zero => exact h.elim
  | succ n => cases d <;> first | rfl | exact h.elim
theorem sameD.ok : ∀ {n : Nat} {d : D}, sameD n d → OkD n d
  | 0, _, h => h.elim
  | n + 1, d, h => by
    cases d with
    | tup l => exact fun x hx => sameD.ok (h.2 x hx)
    | lst l => exact fun x hx => sameD.ok (h.2 x hx)
    | _ => first | exact trivial | exact h | exact h.elim
theorem sameD.up : ∀ {n m : Nat} {d : D}, sameD n d → n ≤ m → sameD m d
  | 0, _, _, h, _ => h.elim
  | n + 1, m, d, h, hm => by
    obtain ⟨m, rfl⟩ : ∃ k, m = k + 1 := ⟨m - 1, by omega⟩
    cases d with
    | tup l => exact ⟨h.1, fun x hx => sameD.up (h.2 x hx) (by omega)⟩
    | lst l => exact ⟨h.1, fun x hx => sameD.up (h.2 x hx) (by omega)⟩
    | _ => first | exact trivial | exact h | exact h.elim
theorem sameD.mem {n : Nat} {l : List D} {d : D} (h : sameD n d) (e : d = .tup l ∨ d = .lst l) : ∀ x ∈ l, plB x = true := by
  cases n with
  | zero => exact h.elim
  | succ n => rcases e with rfl | rfl <;> exact fun x hx => (h.2 x hx).pl
mutual
theorem Bd.ok0 (n : Nat) : ∀ (m : Nat) (d : D), OkD m d → Bd n d
  | m, .tup l, h => by cases m with
    | zero => exact h.elim
    | succ m => exact Bds.ok0 n m l h
  | m, .lst l, h => by cases m with
    | zero => exact h.elim
    | succ m => exact Bds.ok0 n m l h
  | m, .fz l, h => by cases m with
    | zero => exact h.elim
    | succ m => exact Bds.ok0 n m l h
  | _, .non, _ => trivial
  | _, .bl _, _ => trivial
  | _, .int _, _ => trivial
  | _, .str _, _ => trivial
  | _, .ty _, _ => trivial
  | _, .cls _, _ => trivial
  | m, .ref _, h => by cases m <;> exact h.elim
  | m, .obj _ _, h => by cases m <;> exact h.elim
  | m, .exn _ _ _ _, h => by cases m <;> exact h.elim
theorem Bds.ok0 (n : Nat) : ∀ (m : Nat) (l : List D), (∀ x ∈ l, OkD m x) → Bds n l
  | _, [], _ => trivial
  | m, d :: ds, h => ⟨Bd.ok0 n m d (h d List.mem_cons_self), Bds.ok0 n m ds fun x hx => h x (List.mem_cons_of_mem _ hx)⟩
end
/-! ### numbers -/
def nats (ns : List Nat) : List D := ns.map fun (n : Nat) => D.int (n : Int)
def prN (p : Nat × Nat) : D := .tup [.int (p.1 : Int), .int (p.2 : Int)]
def prs (ps : List (Nat × Nat)) : List D := ps.map prN
theorem nats_set {ms : List Nat} {e v : Nat} : (nats ms).set e (.int (v : Int)) = nats (ms.set e v) := by unfold nats; rw [List.map_set]
theorem nats_get {ms : List Nat} {e v : Nat} (h : ms[e]? = some v) : (nats ms)[e]? = some (.int (v : Int)) := by unfold nats; rw [List.getElem?_map, h]; rfl
theorem nats_at {ms : List Nat} {e v : Nat} (h : ms[e]? = some v) : atI (nats ms) (e : Int) = some (.int (v : Int)) := atI_nat (nats_get h)
theorem nats_len {ms : List Nat} : (nats ms).length = ms.length := by unfold nats; rw [List.length_map]
theorem prs_len {ps : List (Nat × Nat)} : (prs ps).length = ps.length := by unfold prs; rw [List.length_map]
theorem nats_app {a b : List Nat} : nats (a ++ b) = nats a ++ nats b := by unfold nats; rw [List.map_append]
theorem nats_one {a : Nat} : nats [a] = [.int a] := rfl
theorem prs_app {a b : List (Nat × Nat)} : prs (a ++ b) = prs a ++ prs b := by unfold prs; rw [List.map_append]
theorem Bds_all' {m : Nat} {l : List D} (h : ∀ x ∈ l, Bd m x) : Bds m l := Bds_iff.mpr h
theorem Bds_nats {m : Nat} {l : List Nat} : Bds m (nats l) := Bds_all' fun x hx => by
  obtain ⟨a, _, rfl⟩ := List.mem_map.mp hx
  trivial
theorem Bds_prs {m : Nat} {l : List (Nat × Nat)} : Bds m (prs l) := Bds_all' fun x hx => by
  obtain ⟨a, _, rfl⟩ := List.mem_map.mp hx
  exact ⟨trivial, trivial, trivial⟩
theorem Bds_ints {m : Nat} {l : List Int} : Bds m (l.map D.int) := Bds_all' fun x hx => by
  obtain ⟨a, _, rfl⟩ := List.mem_map.mp hx
  trivial
theorem get_lt {α : Type} {l : List α} {i : Nat} (h : i < l.length) : ∃ a, l[i]? = some a := ⟨_, List.getElem?_eq_getElem h⟩
theorem nats_ixN {ms : List Nat} {e : Nat} (h : e < ms.length) : ixN (nats ms).length (e : Int) = some e := by rw [nats_len]; exact ixN_nat h
theorem rg_nats (n : Nat) : rgD 0 n = nats (List.range n) := by
  unfold rgD nats
  refine List.map_congr_left fun i _ => ?_
  rw [Int.zero_add]
theorem iOf_int {i : Int} : iOf (.int i) = i := rfl
theorem rep0 (n : Nat) : (List.replicate ((n : Nat) : Int).toNat [D.int 0]).flatten = nats (List.replicate n 0) := by
  rw [Int.toNat_natCast]
  unfold nats
  rw [List.map_replicate]
  induction n with
  | zero => rfl
  | succ n ih => rw [List.replicate_succ, List.flatten_cons, ih, List.replicate_succ]; rfl
/-! ### kinds -/
theorem isT_00 {l : List D} : isT (.tup l) "tuple" = true := rfl
theorem isT_01 {l : List D} : isT (.tup l) "list" = false := rfl
theorem isT_02 {l : List D} : isT (.tup l) "int" = false := rfl
theorem isT_03 {l : List D} : isT (.tup l) "bool" = false := rfl
theorem isT_04 {l : List D} : isT (.tup l) "str" = false := rfl
theorem plB_0 {l : List D} : plB (.tup l) = true := rfl
theorem isT_10 {l : List D} : isT (.lst l) "tuple" = false := rfl
theorem isT_11 {l : List D} : isT (.lst l) "list" = true := rfl
theorem isT_12 {l : List D} : isT (.lst l) "int" = false := rfl
theorem isT_13 {l : List D} : isT (.lst l) "bool" = false := rfl
theorem isT_14 {l : List D} : isT (.lst l) "str" = false := rfl
theorem plB_1 {l : List D} : plB (.lst l) = true := rfl
theorem isT_20 {l : List D} : isT (.fz l) "tuple" = false := rfl
theorem isT_21 {l : List D} : isT (.fz l) "list" = true := rfl
theorem isT_22 {l : List D} : isT (.fz l) "int" = false := rfl
theorem isT_23 {l : List D} : isT (.fz l) "bool" = false := rfl
theorem isT_24 {l : List D} : isT (.fz l) "str" = false := rfl
theorem plB_2 {l : List D} : plB (.fz l) = true := rfl
theorem isT_30 {i : Int} : isT (.int i) "tuple" = false := rfl
theorem isT_31 {i : Int} : isT (.int i) "list" = false := rfl
theorem isT_32 {i : Int} : isT (.int i) "int" = true := rfl
theorem isT_33 {i : Int} : isT (.int i) "bool" = false := rfl
theorem isT_34 {i : Int} : isT (.int i) "str" = false := rfl
theorem plB_3 {i : Int} : plB (.int i) = true := rfl
theorem isT_40 {b : Bool} : isT (.bl b) "tuple" = false := rfl
theorem isT_41 {b : Bool} : isT (.bl b) "list" = false := rfl
theorem isT_42 {b : Bool} : isT (.bl b) "int" = true := rfl
theorem isT_43 {b : Bool} : isT (.bl b) "bool" = true := rfl
theorem isT_44 {b : Bool} : isT (.bl b) "str" = false := rfl
theorem plB_4 {b : Bool} : plB (.bl b) = true := rfl
theorem isT_50 {z : Str} : isT (.str z) "tuple" = false := rfl
theorem isT_51 {z : Str} : isT (.str z) "list" = false := rfl
theorem isT_52 {z : Str} : isT (.str z) "int" = false := rfl
theorem isT_53 {z : Str} : isT (.str z) "bool" = false := rfl
theorem isT_54 {z : Str} : isT (.str z) "str" = true := rfl
theorem plB_5 {z : Str} : plB (.str z) = true := rfl
theorem isT_60 : isT (.non) "tuple" = false := rfl
theorem isT_61 : isT (.non) "list" = false := rfl
theorem isT_62 : isT (.non) "int" = false := rfl
theorem isT_63 : isT (.non) "bool" = false := rfl
theorem isT_64 : isT (.non) "str" = false := rfl
theorem plB_6 : plB (.non) = true := rfl
theorem isi_00 {cs : List String} {h : DHp} {Q : DK} {l : List D} : nIsi cs [(.tup l), .ty "tuple"] h Q ↔ Q (.bl true) h := isi_eq rfl (by decide)
theorem isi_01 {cs : List String} {h : DHp} {Q : DK} {l : List D} : nIsi cs [(.tup l), .ty "list"] h Q ↔ Q (.bl false) h := isi_eq rfl (by decide)
theorem isi_02 {cs : List String} {h : DHp} {Q : DK} {l : List D} : nIsi cs [(.tup l), .ty "int"] h Q ↔ Q (.bl false) h := isi_eq rfl (by decide)
theorem isi_03 {cs : List String} {h : DHp} {Q : DK} {l : List D} : nIsi cs [(.tup l), .ty "bool"] h Q ↔ Q (.bl false) h := isi_eq rfl (by decide)
theorem isi_04 {cs : List String} {h : DHp} {Q : DK} {l : List D} : nIsi cs [(.tup l), .ty "str"] h Q ↔ Q (.bl false) h := isi_eq rfl (by decide)
theorem isi_lt_0 {cs : List String} {h : DHp} {Q : DK} {l : List D} : nIsi cs [(.tup l), .tup [.ty "list", .ty "tuple"]] h Q ↔ Q (.bl true) h := isi_lt rfl
theorem isi_tl_0 {cs : List String} {h : DHp} {Q : DK} {l : List D} : nIsi cs [(.tup l), .tup [.ty "tuple", .ty "list"]] h Q ↔ Q (.bl true) h := isi_tl rfl
theorem isi_10 {cs : List String} {h : DHp} {Q : DK} {l : List D} : nIsi cs [(.lst l), .ty "tuple"] h Q ↔ Q (.bl false) h := isi_eq rfl (by decide)
theorem isi_11 {cs : List String} {h : DHp} {Q : DK} {l : List D} : nIsi cs [(.lst l), .ty "list"] h Q ↔ Q (.bl true) h := isi_eq rfl (by decide)
theorem isi_12 {cs : List String} {h : DHp} {Q : DK} {l : List D} : nIsi cs [(.lst l), .ty "int"] h Q ↔ Q (.bl false) h := isi_eq rfl (by decide)
theorem isi_13 {cs : List String} {h : DHp} {Q : DK} {l : List D} : nIsi cs [(.lst l), .ty "bool"] h Q ↔ Q (.bl false) h := isi_eq rfl (by decide)
theorem isi_14 {cs : List String} {h : DHp} {Q : DK} {l : List D} : nIsi cs [(.lst l), .ty "str"] h Q ↔ Q (.bl false) h := isi_eq rfl (by decide)
theorem isi_lt_1 {cs : List String} {h : DHp} {Q : DK} {l : List D} : nIsi cs [(.lst l), .tup [.ty "list", .ty "tuple"]] h Q ↔ Q (.bl true) h := isi_lt rfl
theorem isi_tl_1 {cs : List String} {h : DHp} {Q : DK} {l : List D} : nIsi cs [(.lst l), .tup [.ty "tuple", .ty "list"]] h Q ↔ Q (.bl true) h := isi_tl rfl
theorem isi_20 {cs : List String} {h : DHp} {Q : DK} {l : List D} : nIsi cs [(.fz l), .ty "tuple"] h Q ↔ Q (.bl false) h := isi_eq rfl (by decide)
theorem isi_21 {cs : List String} {h : DHp} {Q : DK} {l : List D} : nIsi cs [(.fz l), .ty "list"] h Q ↔ Q (.bl true) h := isi_eq rfl (by decide)
theorem isi_22 {cs : List String} {h : DHp} {Q : DK} {l : List D} : nIsi cs [(.fz l), .ty "int"] h Q ↔ Q (.bl false) h := isi_eq rfl (by decide)
theorem isi_23 {cs : List String} {h : DHp} {Q : DK} {l : List D} : nIsi cs [(.fz l), .ty "bool"] h Q ↔ Q (.bl false) h := isi_eq rfl (by decide)
theorem isi_24 {cs : List String} {h : DHp} {Q : DK} {l : List D} : nIsi cs [(.fz l), .ty "str"] h Q ↔ Q (.bl false) h := isi_eq rfl (by decide)
theorem isi_lt_2 {cs : List String} {h : DHp} {Q : DK} {l : List D} : nIsi cs [(.fz l), .tup [.ty "list", .ty "tuple"]] h Q ↔ Q (.bl true) h := isi_lt rfl
theorem isi_tl_2 {cs : List String} {h : DHp} {Q : DK} {l : List D} : nIsi cs [(.fz l), .tup [.ty "tuple", .ty "list"]] h Q ↔ Q (.bl true) h := isi_tl rfl
theorem isi_30 {cs : List String} {h : DHp} {Q : DK} {i : Int} : nIsi cs [(.int i), .ty "tuple"] h Q ↔ Q (.bl false) h := isi_eq rfl (by decide)
theorem isi_31 {cs : List String} {h : DHp} {Q : DK} {i : Int} : nIsi cs [(.int i), .ty "list"] h Q ↔ Q (.bl false) h := isi_eq rfl (by decide)
theorem isi_32 {cs : List String} {h : DHp} {Q : DK} {i : Int} : nIsi cs [(.int i), .ty "int"] h Q ↔ Q (.bl true) h := isi_eq rfl (by decide)
theorem isi_33 {cs : List String} {h : DHp} {Q : DK} {i : Int} : nIsi cs [(.int i), .ty "bool"] h Q ↔ Q (.bl false) h := isi_eq rfl (by decide)
theorem isi_34 {cs : List String} {h : DHp} {Q : DK} {i : Int} : nIsi cs [(.int i), .ty "str"] h Q ↔ Q (.bl false) h := isi_eq rfl (by decide)
theorem isi_lt_3 {cs : List String} {h : DHp} {Q : DK} {i : Int} : nIsi cs [(.int i), .tup [.ty "list", .ty "tuple"]] h Q ↔ Q (.bl false) h := isi_lt rfl
theorem isi_tl_3 {cs : List String} {h : DHp} {Q : DK} {i : Int} : nIsi cs [(.int i), .tup [.ty "tuple", .ty "list"]] h Q ↔ Q (.bl false) h := isi_tl rfl
theorem isi_40 {cs : List String} {h : DHp} {Q : DK} {b : Bool} : nIsi cs [(.bl b), .ty "tuple"] h Q ↔ Q (.bl false) h := isi_eq rfl (by decide)
theorem isi_41 {cs : List String} {h : DHp} {Q : DK} {b : Bool} : nIsi cs [(.bl b), .ty "list"] h Q ↔ Q (.bl false) h := isi_eq rfl (by decide)
theorem isi_42 {cs : List String} {h : DHp} {Q : DK} {b : Bool} : nIsi cs [(.bl b), .ty "int"] h Q ↔ Q (.bl true) h := isi_eq rfl (by decide)
theorem isi_43 {cs : List String} {h : DHp} {Q : DK} {b : Bool} : nIsi cs [(.bl b), .ty "bool"] h Q ↔ Q (.bl true) h := isi_eq rfl (by decide)
theorem isi_44 {cs : List String} {h : DHp} {Q : DK} {b : Bool} : nIsi cs [(.bl b), .ty "str"] h Q ↔ Q (.bl false) h := isi_eq rfl (by decide)
theorem isi_lt_4 {cs : List String} {h : DHp} {Q : DK} {b : Bool} : nIsi cs [(.bl b), .tup [.ty "list", .ty "tuple"]] h Q ↔ Q (.bl false) h := isi_lt rfl
theorem isi_tl_4 {cs : List String} {h : DHp} {Q : DK} {b : Bool} : nIsi cs [(.bl b), .tup [.ty "tuple", .ty "list"]] h Q ↔ Q (.bl false) h := isi_tl rfl
theorem isi_50 {cs : List String} {h : DHp} {Q : DK} {z : Str} : nIsi cs [(.str z), .ty "tuple"] h Q ↔ Q (.bl false) h := isi_eq rfl (by decide)
theorem isi_51 {cs : List String} {h : DHp} {Q : DK} {z : Str} : nIsi cs [(.str z), .ty "list"] h Q ↔ Q (.bl false) h := isi_eq rfl (by decide)
theorem isi_52 {cs : List String} {h : DHp} {Q : DK} {z : Str} : nIsi cs [(.str z), .ty "int"] h Q ↔ Q (.bl false) h := isi_eq rfl (by decide)
theorem isi_53 {cs : List String} {h : DHp} {Q : DK} {z : Str} : nIsi cs [(.str z), .ty "bool"] h Q ↔ Q (.bl false) h := isi_eq rfl (by decide)
theorem isi_54 {cs : List String} {h : DHp} {Q : DK} {z : Str} : nIsi cs [(.str z), .ty "str"] h Q ↔ Q (.bl true) h := isi_eq rfl (by decide)
theorem isi_lt_5 {cs : List String} {h : DHp} {Q : DK} {z : Str} : nIsi cs [(.str z), .tup [.ty "list", .ty "tuple"]] h Q ↔ Q (.bl false) h := isi_lt rfl
theorem isi_tl_5 {cs : List String} {h : DHp} {Q : DK} {z : Str} : nIsi cs [(.str z), .tup [.ty "tuple", .ty "list"]] h Q ↔ Q (.bl false) h := isi_tl rfl
theorem isi_60 {cs : List String} {h : DHp} {Q : DK} : nIsi cs [(.non), .ty "tuple"] h Q ↔ Q (.bl false) h := isi_eq rfl (by decide)
theorem isi_61 {cs : List String} {h : DHp} {Q : DK} : nIsi cs [(.non), .ty "list"] h Q ↔ Q (.bl false) h := isi_eq rfl (by decide)
theorem isi_62 {cs : List String} {h : DHp} {Q : DK} : nIsi cs [(.non), .ty "int"] h Q ↔ Q (.bl false) h := isi_eq rfl (by decide)
theorem isi_63 {cs : List String} {h : DHp} {Q : DK} : nIsi cs [(.non), .ty "bool"] h Q ↔ Q (.bl false) h := isi_eq rfl (by decide)
theorem isi_64 {cs : List String} {h : DHp} {Q : DK} : nIsi cs [(.non), .ty "str"] h Q ↔ Q (.bl false) h := isi_eq rfl (by decide)
theorem isi_lt_6 {cs : List String} {h : DHp} {Q : DK} : nIsi cs [(.non), .tup [.ty "list", .ty "tuple"]] h Q ↔ Q (.bl false) h := isi_lt rfl
theorem isi_tl_6 {cs : List String} {h : DHp} {Q : DK} : nIsi cs [(.non), .tup [.ty "tuple", .ty "list"]] h Q ↔ Q (.bl false) h := isi_tl rfl
theorem isN_0 {l : List D} : isN (.tup l) = false := rfl
theorem isN_1 {l : List D} : isN (.lst l) = false := rfl
theorem isN_2 {l : List D} : isN (.fz l) = false := rfl
theorem isN_3 {i : Int} : isN (.int i) = false := rfl
theorem isN_4 {b : Bool} : isN (.bl b) = false := rfl
theorem isN_5 {z : Str} : isN (.str z) = false := rfl
theorem isN_6 : isN (.non) = true := rfl
theorem rz_end {h : DHp} {l : List D} : rz (h ++ [.lst l]) (.ref h.length) = .lst l := by
  show (match (h ++ [HB.lst l])[h.length]? with | some (.lst l) => D.lst l | _ => .ref h.length) = _
  rw [at_end]
theorem rz_lst {h : DHp} {l : List D} : rz h (.lst l) = .lst l := rfl
theorem cut_take {l : List D} {k : Nat} : cutD l none (some (k : Int)) = l.take k := by
  unfold cutD
  rw [HT.sIx_none, HT.sIx_nat, List.drop_zero, Nat.sub_zero]
  by_cases h : k ≤ l.length
  · rw [Nat.min_eq_left h]
  · rw [Nat.min_eq_right (by omega), List.take_of_length_le (Nat.le_refl _), List.take_of_length_le (by omega)]
theorem cut_drop {l : List D} {k : Nat} : cutD l (some (k : Int)) none = l.drop k := by
  unfold cutD
  rw [HT.sIx_none, HT.sIx_nat]
  by_cases h : k ≤ l.length
  · rw [Nat.min_eq_left h, List.take_of_length_le (by rw [List.length_drop]; omega)]
  · rw [Nat.min_eq_right (by omega), Nat.sub_self, List.take_zero, List.drop_of_length_le (by omega)]
theorem cut1 {a : D} {l : List D} : cutD (a :: l) (some 1) none = l := cut_drop (k := 1)
theorem neg1 (b : Bool) : (1 : Int) - b2D b = b2D (!b) := by cases b <;> rfl
theorem atI_m1 {α : Type} {a : α} : atI [a] (-1) = some a := rfl
theorem atI_m2 {α : Type} {a b : α} : atI [a, b] (-1) = some b := rfl
/-! ### bits -/
theorem bit_eq1 {b : Bool} : ((if b = true then (1 : Int) else 0) == 1) = b := by cases b <;> rfl
theorem bit_tru {b : Bool} : ((if b = true then (1 : Int) else 0) != 0) = b := by cases b <;> rfl
theorem cpow {k : Nat} (h : k ≤ 1000) : CPow 1 (k : Int) := ⟨by omega, by omega, by decide⟩
/-! ### order -/
theorem dataLt_irrefl (x : PyData) : PySem.W.dataLt x x = false := (listOrd itemOrd).irrefl (PySem.W.keyToks x)
theorem leS_total (x y : D) : leS x y = true ∨ leS y x = true := by
  unfold leS ltD
  cases q : PySem.W.dataLt (toP y) (toP x) with
  | false => exact .inl rfl
  | true =>
    refine .inr ?_
    have : PySem.W.dataLt (toP x) (toP y) = false := by
      cases q2 : PySem.W.dataLt (toP x) (toP y) with
      | false => rfl
      | true =>
        have := (listOrd itemOrd).trans _ _ _ q q2
        rw [(listOrd itemOrd).irrefl] at this
        cases this
    rw [this]; rfl
theorem leS_trans (x y z : D) (h1 : leS x y = true) (h2 : leS y z = true) : leS x z = true := by
  unfold leS ltD at *
  rw [Bool.not_eq_true'] at *
  cases q : PySem.W.dataLt (toP z) (toP x) with
  | false => rfl
  | true =>
    rcases (listOrd itemOrd).negTrans _ (PySem.W.keyToks (toP y)) _ q with g | g
    · have h2' : (listOrd itemOrd).blt (PySem.W.keyToks (toP z)) (PySem.W.keyToks (toP y)) = false := h2
      rw [h2'] at g; cases g
    · have h1' : (listOrd itemOrd).blt (PySem.W.keyToks (toP y)) (PySem.W.keyToks (toP x)) = false := h1
      rw [h1'] at g; cases g
theorem dsort_perm (l : List D) : (dsort l).Perm l := List.mergeSort_perm _ _
theorem dsort_srt (l : List D) : (dsort l).Pairwise fun x y => leS x y = true :=
  List.pairwise_mergeSort (le := leS) (fun a b c h1 h2 => leS_trans a b c h1 h2) (fun a b => Bool.or_eq_true_iff.mpr (leS_total a b)) l
theorem dsort_len (l : List D) : (dsort l).length = l.length := List.length_mergeSort _
/-- alike, not above, not equal: below -/
theorem lt_of_le {x y : D} (a : alkD x y = true) (n : deq x y = false) (h : leS x y = true) : ltD x y = true := by
  cases q : ltD x y with
  | true => rfl
  | false =>
    unfold leS ltD at *
    rw [Bool.not_eq_true'] at h
    have e := (listOrd itemOrd).total _ _ q h
    have t := (PySem.W.toks_eqv (toP x) (toP y) a).2 n
    have t2 := t [] [.inl 0]
    rw [e, List.append_nil] at t2
    have q' : PyProof.Rows.lexLt itemOrd (PySem.W.keyToks (toP x)) (PySem.W.keyToks (toP y)) = false := q
    rw [e] at q'
    rw [q'] at t2
    have : PyProof.Rows.lexLt itemOrd (PySem.W.keyToks (toP y)) (PySem.W.keyToks (toP y) ++ [.inl 0]) = true := by
      have g : ∀ l : List (Int ⊕ List Nat), PyProof.Rows.lexLt itemOrd l (l ++ [.inl 0]) = true := by
        intro l
        have := PySem.W.lex_pre l [] [.inl 0]
        rw [List.append_nil] at this
        rw [this]
        rfl
      exact g _
    rw [this] at t2; cases t2
/-- sorted, no two equal: each is below the next -/
theorem strict_of {l : List D} (a : ∀ x ∈ l, ∀ y ∈ l, alkD x y = true) (nd : l.Pairwise fun x y => deq x y = false) (s : l.Pairwise fun x y => leS x y = true) : l.Pairwise fun x y => ltD x y = true := by
  induction l with
  | nil => exact List.Pairwise.nil
  | cons x l ih =>
    obtain ⟨n1, n2⟩ := List.pairwise_cons.mp nd
    obtain ⟨s1, s2⟩ := List.pairwise_cons.mp s
    exact List.pairwise_cons.mpr ⟨fun y hy => lt_of_le (a x List.mem_cons_self y (List.mem_cons_of_mem _ hy)) (n1 y hy) (s1 y hy), ih (fun u hu v hv => a u (List.mem_cons_of_mem _ hu) v (List.mem_cons_of_mem _ hv)) n2 s2⟩
theorem deq_comm (x y : D) : deq x y = deq y x := PySem.W.eqv_comm _ _
/-- the sorted list, by typed members -/
theorem dsort_map {α : Type} (f : α → D) (l : List α) : ∃ l' : List α, l'.Perm l ∧ dsort (l.map f) = l'.map f := by
  refine ⟨l.mergeSort fun a b => leS (f a) (f b), List.mergeSort_perm _ _, ?_⟩
  exact (PySem.W.sort_maps (r := fun a b => leS (f a) (f b)) (s := leS) f (l := l) fun _ _ _ _ => rfl).symm
/-! ### words -/
def bitD (b : Bool) : D := .int (b2D b)
def wrd (w : List Bool) : D := .tup (w.map bitD)
def bitB (d : D) : Bool := btw d 0 1
def wordB (d : D) (n : Int) : Bool := match d with
  | .tup l => decide ((l.length : Int) = n) && l.all bitB
  | _ => false
theorem bitB_of {d : D} (h : bitB d = true) : ∃ b, d = bitD b := by
  cases d with
  | int i =>
    have h' : (decide ((0 : Int) ≤ i) && decide (i ≤ 1)) = true := h
    simp at h'
    rcases (show i = 0 ∨ i = 1 by omega) with rfl | rfl
    · exact ⟨false, rfl⟩
    · exact ⟨true, rfl⟩
  | _ => cases h
theorem bitB_bit (b : Bool) : bitB (bitD b) = true := by cases b <;> rfl
theorem wordB_iff {d : D} {n : Nat} : wordB d n = true ↔ ∃ w : List Bool, d = wrd w ∧ w.length = n := by
  constructor
  · intro h
    cases d with
    | tup l =>
      have h' : (decide ((l.length : Int) = n) && l.all bitB) = true := h
      rw [Bool.and_eq_true, decide_eq_true_eq, List.all_eq_true] at h'
      obtain ⟨h1, h2⟩ := h'
      have gen : ∀ l : List D, (∀ x ∈ l, bitB x = true) → ∃ w : List Bool, l = w.map bitD := by
        intro l
        induction l with
        | nil => exact fun _ => ⟨[], rfl⟩
        | cons x l ih =>
          intro h
          obtain ⟨b, rfl⟩ := bitB_of (h x List.mem_cons_self)
          obtain ⟨w, rfl⟩ := ih fun y hy => h y (List.mem_cons_of_mem _ hy)
          exact ⟨b :: w, rfl⟩
      obtain ⟨w, rfl⟩ := gen l h2
      exact ⟨w, rfl, by rw [List.length_map] at h1; omega⟩
    | _ => cases h
  · rintro ⟨w, rfl, rfl⟩
    show (decide (((w.map bitD).length : Int) = (w.length : Nat)) && (w.map bitD).all bitB) = true
    rw [Bool.and_eq_true]
    refine ⟨by simp, List.all_eq_true.mpr fun x hx => ?_⟩
    obtain ⟨b, _, rfl⟩ := List.mem_map.mp hx
    exact bitB_bit b
theorem wordB_no {d : D} {n : Nat} : wordB d n = false ↔ ∀ w : List Bool, d = wrd w → w.length ≠ n := by
  constructor
  · intro h w e hl
    have := wordB_iff.mpr ⟨w, e, hl⟩
    rw [h] at this; cases this
  · intro h
    cases q : wordB d n with
    | false => rfl
    | true => obtain ⟨w, e, hl⟩ := wordB_iff.mp q; exact absurd hl (h w e)
theorem bit_at {w : List Bool} {k : Nat} {b : Bool} (h : w[k]? = some b) : atI (w.map bitD) (k : Int) = some (bitD b) := atI_nat (by rw [List.getElem?_map, h]; rfl)
theorem bit_deq (a b : Bool) : deq (bitD a) (bitD b) = (a == b) := by cases a <;> cases b <;> rfl
theorem bit_inj {a b : Bool} (h : bitD a = bitD b) : a = b := by cases a <;> cases b <;> first | rfl | (exact absurd (D.int.inj h) (by decide))
theorem wrd_inj {a b : List Bool} (h : wrd a = wrd b) : a = b := (List.map_inj_right (fun _ _ => bit_inj)).mp (D.tup.inj h)
theorem wrd_same {w : List Bool} (h : w.length ≤ 100000) : sameD 2 (wrd w) := ⟨by rw [List.length_map]; exact h, fun x hx => by
  obtain ⟨b, _, rfl⟩ := List.mem_map.mp hx
  trivial⟩
/-! ### the law's draws -/
def ct_law_cell : Ct := fun ds h X Q => ∃ (ns : List Int) (k : Int), ds = [.fz (ns.map D.int), .int k] ∧ 0 ≤ k ∧ ns.length ≤ 63 ∧ ∀ i : Int, Q (.int i) h
def ct_law_row : Ct := fun ds h X Q => ∃ (ns : List Int) (a m l : Nat), ds = [.fz (ns.map D.int), .int a, .int m, .int l] ∧ ns.length ≤ 63 ∧ m ≤ 10000 ∧ 0 < l ∧ l < 2000000 ∧ ∀ r : List Nat, r.length = m → (∀ x ∈ r, x < l) → Q (.lst (nats r)) h
end L2.MW

/-! MW, part O: zip of three tuples; calls without arguments. -/
namespace L2.MW
open PySem PySem.Spec PyProof.Rows
/-- the three tuples, as they stand at each turn -/
def It3 (K : PySem.W.Frag) (a b c : Addr) (n1 n2 n3 : Nat) : It where
  go := fun i H => ∃ (xs ys zs : List V) (x y z : V), (SqT K H a xs ∧ xs.length = n1 ∧ xs[i]? = some x) ∧ (SqT K H b ys ∧ ys.length = n2 ∧ ys[i]? = some y) ∧ (SqT K H c zs ∧ zs.length = n3 ∧ zs[i]? = some z)
  yld := fun i H v H' => ∃ T x y z, v = .ref T ∧ H T = none ∧ H' = upd H T (.tup [x, y, z]) ∧ (∀ xs, SqT K H a xs → xs[i]? = some x) ∧ (∀ ys, SqT K H b ys → ys[i]? = some y) ∧ ∀ zs, SqT K H c zs → zs[i]? = some z
  stop := fun i H => ∃ xs ys zs : List V, (SqT K H a xs ∧ xs.length = n1) ∧ (SqT K H b ys ∧ ys.length = n2) ∧ (SqT K H c zs ∧ zs.length = n3) ∧ (n1 ≤ i ∨ n2 ≤ i ∨ n3 ≤ i)
/-- six cells -/
theorem six {α : Type} {c z t o i j k : α} (h : c ∈ [z, t, o, i, j, k]) : c = z ∨ c = t ∨ c = o ∨ c = i ∨ c = j ∨ c = k := by simpa using h
theorem tup_ne_iter {h : Heap} {a it t : Addr} {i : Nat} {l : Array Value} (p : h.IsTuple a l) (q : h.IsTupleIter it t i) : a ≠ it := fun e => by
  obtain ⟨o, ho, hc, _⟩ := p
  obtain ⟨o', ho', hc', _⟩ := q
  rw [e, ho'] at ho
  cases ho
  rw [hc'] at hc
  exact absurd hc (by decide)
theorem turn_z3 {P : Program} {w : World} {K : PySem.W.Frag} {elts : List Expr} {kk : Nat} {tpos : Pos} {a b c z TI TO i1 i2 i3 : Addr} {n1 n2 n3 : Nat} (D : ZipSep3 z TI TO i1 i2 i3 [i1, a] [i2, b] [i3, c]) :
    Turn P w K (.Tuple elts kk tpos) (It3 K a b c n1 n2 n3) [z, TI, TO, i1, i2, i3] z (fun i h => (i ≤ n1 ∧ i ≤ n2 ∧ i ≤ n3) ∧ IsZip h z TI TO .none ∧ IsTupOf3 h TI (.ref i1) (.ref i2) (.ref i3) ∧ (∃ x y u, IsTupOf3 h TO x y u) ∧ h.IsTupleIter i1 a i ∧ h.IsTupleIter i2 b i ∧ h.IsTupleIter i3 c i) where
  mem := List.mem_cons_self
  obj := fun i h st d hd => by
    obtain ⟨_, hz, hTI, ⟨x, y, u, hTO⟩, ⟨o1, e1, _, d1⟩, ⟨o2, e2, _, d2⟩, ⟨o3, e3, _, d3⟩⟩ := st
    rcases six hd with rfl | rfl | rfl | rfl | rfl | rfl
    · exact ⟨_, hz, nofun⟩
    · exact ⟨_, hTI, nofun⟩
    · exact ⟨_, hTO, nofun⟩
    · exact ⟨o1, e1, fun v q => by rw [d1] at q; cases q⟩
    · exact ⟨o2, e2, fun v q => by rw [d2] at q; cases q⟩
    · exact ⟨o3, e3, fun v q => by rw [d3] at q; cases q⟩
  keep := fun i h h' st k => by
    obtain ⟨hn, hz, hTI, ⟨x, y, u, hTO⟩, h1, h2, h3⟩ := st
    have m : ∀ {d : Addr}, (d = z ∨ d = TI ∨ d = TO ∨ d = i1 ∨ d = i2 ∨ d = i3) → ∀ o, h.get? d = some o → h'.get? d = some o := fun hd o q => k _ (by simpa using hd) o q
    exact ⟨hn, m (.inl rfl) _ hz, m (.inr (.inl rfl)) _ hTI, ⟨x, y, u, m (.inr (.inr (.inl rfl))) _ hTO⟩, h1.at fun o q => m (by simp) o q, h2.at fun o q => m (by simp) o q, h3.at fun o q => m (by simp) o q⟩
  item := by
    intro X hP hw hK hc i pins s σ H E I hf st hg
    subst hP hw hK
    obtain ⟨hn, hz, hTI, ⟨x0, y0, u0, hTO⟩, h1, h2, h3⟩ := st
    obtain ⟨xs, ys, zs, x, y, u, ⟨qx, lx, hx⟩, ⟨qy, ly, hy⟩, ⟨qz, lz, hu⟩⟩ := hg
    obtain ⟨is1, r1, p1, _⟩ := I.tuple qx
    obtain ⟨is2, r2, p2, _⟩ := I.tuple qy
    obtain ⟨is3, r3, p3, _⟩ := I.tuple qz
    obtain ⟨v1, g1, rv1⟩ := r1.get hx
    obtain ⟨v2, g2, rv2⟩ := r2.get hy
    obtain ⟨v3, g3, rv3⟩ := r3.get hu
    have hd : X.A.in1.handled = none := I.ok.hd hc
    have hzl : z < s.heap.objs.size := Heap.lt_size hz
    have far : ∀ d, d ∉ [z, TI, TO, i1, i2, i3] → d ≠ z ∧ d ≠ TI ∧ d ≠ TO ∧ d ≠ i1 ∧ d ≠ i2 ∧ d ≠ i3 := fun d hd => by simpa using hd
    have low : ∀ d ∈ [z, TI, TO, i1, i2, i3], d < s.heap.objs.size := fun d hd => by
      rcases six hd with rfl | rfl | rfl | rfl | rfl | rfl
      · exact hzl
      · exact Heap.lt_size hTI
      · exact Heap.lt_size hTO
      · obtain ⟨_, q, _⟩ := h1; exact Heap.lt_size q
      · obtain ⟨_, q, _⟩ := h2; exact Heap.lt_size q
      · obtain ⟨_, q, _⟩ := h3; exact Heap.lt_size q
    have sz : ∀ {us : List Value} {j : Nat} {u : Value}, us[j]? = some u → j < us.toArray.size := fun e => by rw [List.size_toArray]; exact (List.getElem?_eq_some_iff.mp e).1
    have same : ∀ {us : List Value} {u y : Value}, us[i]? = some u → us.toArray[i]? = some y → y = u := fun e e' => by
      rw [List.getElem?_toArray, e] at e'
      exact (Option.some.inj e').symm
    refine wpAny_pyNext_zipD3_item D (Draws.tuple hd i1 a (tup_ne_iter p1 h1) is1.toArray) (Draws.tuple hd i2 b (tup_ne_iter p2 h2) is2.toArray) (Draws.tuple hd i3 c (tup_ne_iter p3 h3) is3.toArray) hz hTI hTO ⟨h1, p1⟩ ⟨h2, p2⟩ ⟨h3, p3⟩ (sz g1) (sz g2) (sz g3)
      fun x1 x2 x3 h' tk e1 e2 e3 hz' hTO' t1 t2 t3 hT hsz hk => ?_
    cases same g1 e1
    cases same g2 e2
    cases same g3 e3
    refine ⟨_, rfl, wpAny_letOwnedTupleGo_zip (s := { s with heap := h', toks := tk }) hz' fun h'' hz'' sb => ?_⟩
    have hT2 : h''.get? s.heap.objs.size = some { cls := .type "tuple", data := .seq #[v1, v2, v3] } := (sb.2 _ (Nat.ne_of_gt hzl)).trans hT
    have new : ObjOk X.prog X.w (upd H s.heap.objs.size (.tup [x, y, u])) h'' s.heap.objs.size (.tup [x, y, u]) :=
      ⟨by show 3 ≤ sizeLine; decide, [v1, v2, v3], .cons rv1 (.cons rv2 (.cons rv3 .nil)), ⟨_, hT2, rfl, _, rfl⟩⟩
    have I1 : Inv X pins σ (upd H s.heap.objs.size (.tup [x, y, u])) { s with heap := h'', toks := tk } :=
      I.turnedNew (ch := [z, TI, TO, i1, i2, i3]) (fun d ob hd q => by
        obtain ⟨f1, f2, f3, f4, f5, f6⟩ := far d hd
        exact (sb.2 d f1).trans (hk d ob f1 f3 f4 f5 f6 q)) hf (Nat.le_refl _) new
    have sn : (i + 1 ≤ n1 ∧ i + 1 ≤ n2 ∧ i + 1 ≤ n3) := by
      have a1 := (List.getElem?_eq_some_iff.mp hx).1
      have a2 := (List.getElem?_eq_some_iff.mp hy).1
      have a3 := (List.getElem?_eq_some_iff.mp hu).1
      omega
    refine ⟨.ref s.heap.objs.size, _, I1, rfl, ⟨_, x, y, u, rfl, I.hok.fresh (Nat.le_refl _), rfl, fun l q => by rw [I.tuple_inj q qx]; exact hx, fun l q => by rw [I.tuple_inj q qy]; exact hy, fun l q => by rw [I.tuple_inj q qz]; exact hu⟩,
      ⟨sn, hz'', (sb.2 _ D.TIz).trans (hk _ _ D.TIz D.TITO D.TIi1 D.TIi2 D.TIi3 hTI), ⟨_, _, _, (sb.2 _ D.TOz).trans hTO'⟩, t1.1.at fun o q => (sb.2 _ (Ne.symm D.zi1)).trans q, t2.1.at fun o q => (sb.2 _ (Ne.symm D.zi2)).trans q, t3.1.at fun o q => (sb.2 _ (Ne.symm D.zi3)).trans q⟩, fun d hd => ?_⟩
    rw [upd_ne (Nat.ne_of_lt (low d hd))]
    exact (hf d hd).1
  done := by
    intro X hP hw hK hc i pins s σ H E I hf st hg
    subst hP hw hK
    obtain ⟨hn, hz, hTI, ⟨x0, y0, u0, hTO⟩, h1, h2, h3⟩ := st
    obtain ⟨xs, ys, zs, ⟨qx, lx⟩, ⟨qy, ly⟩, ⟨qz, lz⟩, hend⟩ := hg
    obtain ⟨is1, r1, p1, _⟩ := I.tuple qx
    obtain ⟨is2, r2, p2, _⟩ := I.tuple qy
    obtain ⟨is3, r3, p3, _⟩ := I.tuple qz
    have m1 := r1.length
    have m2 := r2.length
    have m3 := r3.length
    have hd : X.A.in1.handled = none := I.ok.hd hc
    have far : ∀ d, d ∉ [z, TI, TO, i1, i2, i3] → d ≠ z ∧ d ≠ TI ∧ d ≠ TO ∧ d ≠ i1 ∧ d ≠ i2 ∧ d ≠ i3 := fun d hd => by simpa using hd
    have s1 : is1.toArray.size = n1 := by rw [List.size_toArray]; omega
    have s2 : is2.toArray.size = n2 := by rw [List.size_toArray]; omega
    have s3 : is3.toArray.size = n3 := by rw [List.size_toArray]; omega
    refine wpAny_pyNext_zipD3_end D (Draws.tuple hd i1 a (tup_ne_iter p1 h1) is1.toArray) (Draws.tuple hd i2 b (tup_ne_iter p2 h2) is2.toArray) (Draws.tuple hd i3 c (tup_ne_iter p3 h3) is3.toArray) hz hTI hTO ⟨h1, p1⟩ ⟨h2, p2⟩ ⟨h3, p3⟩ (by omega) (by omega) (by omega) (by omega)
      fun h' tk hk => ⟨rfl, I.turnedL (ch := [z, TI, TO, i1, i2, i3]) (fun d ob hd q => ?_) hf⟩
    obtain ⟨f1, f2, f3, f4, f5, f6⟩ := far d hd
    exact hk d ob f1 f3 f4 f5 f6 q
  self := fun A i s Q E st h => wpAny_pyIter_zip st.2.1 h
/-- zip of three tuples -/
def iZ3 (K : PySem.W.Frag) (ta : TA) : TI := fun σ H R => ta σ H fun vs H1 => ∃ a b c xs ys zs, vs = [.ref a, .ref b, .ref c] ∧ SqT K H1 a xs ∧ SqT K H1 b ys ∧ SqT K H1 c zs ∧ R (It3 K a b c xs.length ys.length zs.length) H1
theorem pi_z3 {X : Cx} {e e2 e3 : Expr} {ta : TA} {p pos tpos : Pos} {elts : List Expr} {kk : Nat} (hg : Gl X "zip") (hm : X.mg "zip" = none) (ha : PA X [e, e2, e3] ta)
    (hs : starEach [e, e2, e3] X.env = (false, eval e X.env) :: starEach [e2, e3] X.env := by rfl) (hpl : (backTo pos (starEach [e2, e3] X.env)).any (·.1) = false := by rfl) :
    PI X (.Tuple elts kk tpos) (.Call (.Name "zip" p) [e, e2, e3] [] pos) (iZ3 X.K ta) := ⟨fun pins s σ H R I h => by
  refine Call_ (ld_blt I hg hm PyProof.Rows.boot_zip (PyProof.Rows.callWith_type1 (thn (ha.run pos pins s σ H _ I h) fun us t1 ⟨ws, G, J, rw', a, b, c, xs, ys, zs, ex, q1, q2, q3, w⟩ => ?_) hs hpl))
  subst ex
  obtain ⟨u1, r1, rfl, v1, rr⟩ : ∃ u r, us = u :: r ∧ RelV (.ref a) u ∧ Vals [.ref b, .ref c] r := by cases rw' with | cons x y => exact ⟨_, _, rfl, x, y⟩
  obtain ⟨u2, r2, rfl, v2, rr⟩ : ∃ u r, r1 = u :: r ∧ RelV (.ref b) u ∧ Vals [.ref c] r := by cases rr with | cons x y => exact ⟨_, _, rfl, x, y⟩
  obtain ⟨u3, r3, rfl, v3, rr⟩ : ∃ u r, r2 = u :: r ∧ RelV (.ref c) u ∧ Vals [] r := by cases rr with | cons x y => exact ⟨_, _, rfl, x, y⟩
  cases rr
  cases v1
  cases v2
  cases v3
  obtain ⟨is1, _, p1, _⟩ := J.tuple q1
  obtain ⟨is2, _, p2, _⟩ := J.tuple q2
  obtain ⟨is3, _, p3, _⟩ := J.tuple q3
  have l1 : a < t1.heap.objs.size := by obtain ⟨_, z, _⟩ := id p1; exact Heap.lt_size z
  have l2 : b < t1.heap.objs.size := by obtain ⟨_, z, _⟩ := id p2; exact Heap.lt_size z
  have l3 : c < t1.heap.objs.size := by obtain ⟨_, z, _⟩ := id p3; exact Heap.lt_size z
  generalize hN : t1.heap.objs.size = N at l1 l2 l3
  have D : ZipSep3 (N + 5) (N + 3) (N + 4) N (N + 1) (N + 2) [N, a] [N + 1, b] [N + 2, c] := by
    have f : ∀ {d : Nat}, d < N → ∀ k, ¬ (N + k = d) := fun l k => Nat.ne_of_gt (Nat.lt_of_lt_of_le l (Nat.le_add_right N k))
    have f0 : ∀ {d : Nat}, d < N → ¬ (N = d) := fun l => Nat.ne_of_gt l
    constructor <;> simp [f l1, f l2, f l3, f0 l1, f0 l2, f0 l3]
  refine zip_begins3 (begins_tuple a is1.toArray) (begins_tuple b is2.toArray) (begins_tuple c is3.toArray) p1 p2 p3 fun h' hz hTI hTO g1 g2 g3 hsz hk => ?_
  rw [hN] at hz hTI hTO g1 g2 g3 ⊢
  refine wpAny_pyIter_zip hz ⟨N + 5, [N + 5, N + 3, N + 4, N, N + 1, N + 2], _, _, G, rfl, J.kept (t' := t1.toks) hk, turn_z3 D, ⟨⟨Nat.zero_le _, Nat.zero_le _, Nat.zero_le _⟩, hz, hTI, ⟨_, _, _, hTO⟩, ⟨_, g1, rfl, rfl⟩, ⟨_, g2, rfl, rfl⟩, ⟨_, g3, rfl, rfl⟩⟩, fun d hd => ?_, w⟩
  have hle : t1.heap.objs.size ≤ d := by rw [hN]; rcases six hd with rfl | rfl | rfl | rfl | rfl | rfl <;> first | exact Nat.le_refl _ | exact Nat.le_add_right _ _
  exact J.fpOk hle (J.hok.fresh hle)⟩
def zp3 : List D → List D → List D → List D
  | x :: l, y :: m, z :: n => .tup [x, y, z] :: zp3 l m n
  | _, _, _ => []
theorem zp3_get : ∀ (l m n : List D) (i : Nat) (d : D), (zp3 l m n)[i]? = some d → ∃ x y z, l[i]? = some x ∧ m[i]? = some y ∧ n[i]? = some z ∧ d = .tup [x, y, z]
  | [], _, _, _, _, h => by simp [zp3] at h
  | _ :: _, [], _, _, _, h => by simp [zp3] at h
  | _ :: _, _ :: _, [], _, _, h => by simp [zp3] at h
  | x :: l, y :: m, z :: n, 0, d, h => by simp [zp3] at h; exact ⟨x, y, z, rfl, rfl, rfl, h.symm⟩
  | _ :: l, _ :: m, _ :: n, i + 1, d, h => by
    obtain ⟨x, y, z, h1, h2, h3, e⟩ := zp3_get l m n i d (by simpa [zp3] using h)
    exact ⟨x, y, z, by simpa using h1, by simpa using h2, by simpa using h3, e⟩
theorem zp3_len : ∀ (l m n : List D), (zp3 l m n).length = min l.length (min m.length n.length)
  | [], _, _ => by simp [zp3]
  | _ :: _, [], _ => by simp [zp3]
  | _ :: _, _ :: _, [] => by simp [zp3]
  | _ :: l, _ :: m, _ :: n => by
    show (zp3 l m n).length + 1 = _
    rw [zp3_len l m n]
    simp only [List.length_cons]
    omega
theorem it_z3 {K : PySem.W.Frag} {ρ0 : List Addr} {H0 : Hp} {a b c : Addr} {l m n : List D} {G : DHp → Prop} (hq : ∀ ρ h H, Ext ρ0 H0 ρ H → HR K ρ h H → G h → ∃ vs us ws, (SqT K H a vs ∧ DVs K ρ H l vs) ∧ (SqT K H b us ∧ DVs K ρ H m us) ∧ SqT K H c ws ∧ DVs K ρ H n ws) :
    ItAt K ρ0 H0 (zp3 l m n) G (It3 K a b c l.length m.length n.length) := fun ρ h H i e hr g => by
  obtain ⟨vs, us, ws, ⟨q1, d1⟩, ⟨q2, d2⟩, q3, d3⟩ := hq ρ h H e hr g
  refine ⟨fun d hd => ?_, fun hl => ⟨vs, us, ws, ⟨q1, d1.length⟩, ⟨q2, d2.length⟩, ⟨q3, d3.length⟩, by rw [zp3_len] at hl; omega⟩⟩
  obtain ⟨x, y, z, hx, hy, hz, rfl⟩ := zp3_get l m n i d hd
  obtain ⟨v, hv, dv⟩ := d1.get hx
  obtain ⟨u, hu, du⟩ := d2.get hy
  obtain ⟨w, hw, dw⟩ := d3.get hz
  refine ⟨⟨vs, us, ws, v, u, w, ⟨q1, d1.length, hv⟩, ⟨q2, d2.length, hu⟩, q3, d3.length, hw⟩, fun t H' yl => ?_⟩
  obtain ⟨T, x', y', z', rfl, np, rfl, f1, f2, f3⟩ := yl
  have w1 := f1 vs q1
  have w2 := f2 us q2
  have w3 := f3 ws q3
  rw [hv] at w1; cases w1
  rw [hu] at w2; cases w2
  rw [hw] at w3; cases w3
  exact ⟨.new1 np, hr.new1 np, .tupNew hr np ⟨_, _, rfl, dv, _, _, rfl, du, _, [], rfl, dw, rfl⟩⟩
def iZip3D (ts : DA) : DI := fun σ h X Q => ts σ h X fun ds h1 => ∃ l m n, ds = [.tup l, .tup m, .tup n] ∧ Q (zp3 l m n) (fun _ => True) h1
theorem si_zip3 {X : Cx} {W : WX} {p pos tpos : Pos} {e e2 e3 : Expr} {ts : DA} {elts : List Expr} {kk : Nat} (hm : X.mg "zip" = none) (ha : SA X W [e, e2, e3] ts) (hg : Gl X "zip" := by rfl)
    (hs : starEach [e, e2, e3] X.env = (false, eval e X.env) :: starEach [e2, e3] X.env := by rfl) (hpl : (backTo pos (starEach [e2, e3] X.env)).any (·.1) = false := by rfl) :
    SI X W (.Tuple elts kk tpos) (.Call (.Name "zip" p) [e, e2, e3] [] pos) (iZip3D ts) :=
  PI.imp (pi_z3 hg hm ha hs hpl) fun σ H R w => by
    obtain ⟨ρ, σd, h, Xd, Qd, hr, sr, w, kx, k⟩ := w
    refine ⟨ρ, σd, h, Xd, _, hr, sr, w, kx, fun ρ1 ds h1 vs H1 e1 hr1 dvs q => ?_⟩
    obtain ⟨l, m, n, rfl, q⟩ := q
    obtain ⟨v, r, rfl, ⟨a, xs, rfl, hq1, d1⟩, u, r', rfl, ⟨b, ys, rfl, hq2, d2⟩, t, r'', rfl, ⟨c, zs, rfl, hq3, d3⟩, rfl⟩ := dvs
    refine ⟨a, b, c, xs, ys, zs, rfl, hq1.sq, hq2.sq, hq3.sq, ?_⟩
    rw [d1.length, d2.length, d3.length]
    exact k ρ1 _ _ h1 _ H1 e1 hr1 (it_z3 fun ρ2 h2 H2 e2 hr2 g2 => ⟨xs, ys, zs, ⟨(hq1.ext e2).sq, DVs.ext e2 _ _ d1⟩, ⟨(hq2.ext e2).sq, DVs.ext e2 _ _ d2⟩, (hq3.ext e2).sq, DVs.ext e2 _ _ d3⟩) q
/-! ### calls without arguments -/
section
variable {X : Cx} {W : WX} {pos p : Pos} {x : Str} {c : Ct} {k : Nat}
theorem se_call0 (F : FnC X.prog X.w X.K X.mg X.base k x 0 c) (tk : L2N.Takes X W) (hr : Room k X.A) (hg : Gl X x := by rfl) (hdb : (x == ("__debug__" : Str)) = false := by decide) : SE X W (.Call (.Name x p) [] [] pos) (dCall c 0 aNil) := ⟨fun pins s σ H Q I w => by
  obtain ⟨f, fd, ps, hps, F, hm, hk, hb⟩ := F.ex
  obtain ⟨ρ, σd, h, Xd, Qd, hR, sr, w, kx, kk⟩ := w
  refine wpAny_Call_Name_kw (ld_glob I hg hm ?_ hdb)
  exact PySem.W.callWith_K0 I.kIn hk (run_fnS (us := []) F hr hb (L2N.passAt tk σ) I .nil ⟨ρ, [], h, Xd, Qd, rfl, hR, rfl, w.2, fun ρ' y h' cls d H' e hr' ea z => kx ρ' y h' cls d H' e hr' (sr.ext e) ea z, kk⟩)⟩
end
/-! ### a tuple times 1 -/
theorem tup_mul_one (l : Addr) (its : Array Value) (n : Nat) (dd : Option Addr) (sl : Array (Option Value)) (u : Tok) :
    Meets (Builtin.«tuple.__mul__» ⟨[.ref l, .int 1 u], []⟩) (fun _ R s => s.heap.get? l = some { cls := .type "tuple", dict := dd, data := .seq its n, slots := sl } ∧ R (.ok (.ret (.ref l))) s) :=
  .of_wp fun prog w A R s h => by
    obtain ⟨hp, g, d, tk, os⟩ := s
    obtain ⟨hl, h⟩ := h
    have f1 := AutoSeq1.idx_int
    have c1 : (its.isEmpty || (1 : Int) == 1) = true := Bool.or_true _
    wp_walk using wpAny_loadPart' hl
    repeat (first
      | (refine wpAny_ite_false (decide_eq_false (by decide)) ?_; wp_walk using wpAny_loadPart' hl)
      | (refine wpAny_ite_true (decide_eq_true c1) ?_; wp_walk using wpAny_loadPart' hl))
    exact ⟨_, rfl, h⟩
def rRep1 (K : PySem.W.Frag) : R2 := fun x y H Q => ∃ l xs, x = .ref l ∧ y = .int 1 ∧ SqT K H l xs ∧ Q (.ref l) H
theorem op_rep1 {X : Cx} : OpR X (binaryOp .Mult) (rRep1 X.K) := by
  intro pins s σ H x y v u Q I rx ry ⟨l, xs, ex, ey, hT, q⟩
  subst ex
  subst ey
  cases rx
  obtain ⟨t, rfl⟩ := ry
  obtain ⟨its, _, ⟨⟨cl, dd, data, sl⟩, ho, hc, n, hd⟩, _⟩ := I.tuple hT
  simp only at hc hd
  subst hc hd
  have isT : s.TypeIs (.ref l) "tuple" := ⟨_, ho, rfl⟩
  have last := call_meets (prog := X.prog) (w := X.w) (A := X.A) (E := X.xe) (Q := EP X pins σ Q) F.slot_tuple_mul isT F.entry_tuple_mul (F.args_tuple_mul_2 _ _)
    (tup_mul_one l its.toArray n dd sl t) ⟨ho, ⟨.ref l, H, I, rfl, q⟩⟩
  have first := call_meets (prog := X.prog) (w := X.w) (A := X.A) (E := X.xe) (Q := fun v s' => v = Value.notImplemented ∧ s'.TypeIs (.ref l) "tuple" ∧ wpAny (model X.prog X.w) X.A (call (.builtin "tuple.__mul__") [.ref l, .int 1 t]) (EP X pins σ Q) X.xe s')
    F.slot_int_rmul (typeIs_int s 1 t) F.entry_int_rmul (F.args_int_rmul_2 _ _)
    (int_rmul_tuple 1 t l its.toArray n dd sl) ⟨ho, rfl, isT, last⟩
  exact wpAny_binaryOp_repeat_ref (U := "int") (by decide) isT (fun s' => typeIs_int s' 1 t) noFill_tuple_mul
    F.fills_int_mul F.slot_int_rmul repeat_tuple F.slot_int_index.lookup first
/-- a tuple some times, once too -/
def dMulT : D2 := fun x y h Q => ∃ a j, x = .tup a ∧ y = .int j ∧ a ≠ [] ∧ 1 ≤ j ∧ j ≤ 1000 ∧ a.length ≤ 1000 ∧ Q (.tup (List.replicate j.toNat a).flatten) h
theorem L_mulT {K : PySem.W.Frag} : L2ok K dMulT (fun x y H Q => rRepT K x y H Q ∨ rRep1 K x y H Q) := by
  intro ρ h H x y vx vy Qd Q hr dx dy ⟨a, j, ex, ey, ha, b1, b2, hz, q⟩ k
  subst ex
  subst ey
  cases (show vy = .int j from dy)
  obtain ⟨p, vs, rfl, h1, d1⟩ := dx
  rcases (show j = 1 ∨ 2 ≤ j by omega) with rfl | b
  · refine .inr ⟨p, vs, rfl, rfl, h1.sq, k ρ (.tup (List.replicate (1 : Int).toNat a).flatten) h _ H .refl hr ⟨p, vs, rfl, h1, by simpa using d1⟩ q⟩
  · refine .inl ⟨p, j, vs, rfl, rfl, h1.sq, fun e => ha ((nil_of_len d1.length).mp e), b, b2, by rw [d1.length]; exact hz, fun n np => ?_⟩
    exact k ρ _ h _ _ (.new1 np) (hr.new1 np) (.tupNew hr np (d1.rep _)) q
theorem se_mulT {X : Cx} {W : WX} {pos : Pos} {a b : Expr} {da db : DE} (ha : SE X W a da) (hb : SE X W b db) : SE X W (.BinOp a .Mult b pos) (dOp dMulT da db) := se_op (op_repT.or op_rep1) L_mulT ha hb
theorem mulT_tup {a : List D} {j : Int} {h : DHp} {Q : DK} : dMulT (.tup a) (.int j) h Q ↔ a ≠ [] ∧ 1 ≤ j ∧ j ≤ 1000 ∧ a.length ≤ 1000 ∧ Q (.tup (List.replicate j.toNat a).flatten) h :=
  ⟨fun ⟨a', j', ea, ej, w⟩ => by cases ea; cases ej; exact w, fun w => ⟨a, j, rfl, rfl, w⟩⟩
end L2.MW

/-! MW, part P: dicts with ints or tuples of ints for keys, sets of ints; comprehensions by invariant. -/
namespace L2.MW
open PySem PySem.Spec PyProof.Rows
/-! ### tables -/
section
variable {α : Type} [DecidableEq α]
def getDK (l : List (α × D)) (k : α) : Option D := (l.find? fun p => decide (p.1 = k)).map (·.2)
def hasDK (l : List (α × D)) (k : α) : Bool := l.any fun p => decide (p.1 = k)
def setDK (l : List (α × D)) (k : α) (d : D) : List (α × D) := if hasDK l k = true then l.map (fun p => if p.1 = k then (p.1, d) else p) else l ++ [(k, d)]
variable {β : Type} [DecidableEq β] {f : α → β} {K : PySem.W.Frag} {ρ : List Addr} {H : Hp}
abbrev zipV (f : α → β) (l : List (α × D)) (vs : List V) : List (β × V) := (l.map fun p => f p.1).zip vs
theorem zipV_cons (p : α × D) (l : List (α × D)) (v : V) (r : List V) : zipV f (p :: l) (v :: r) = (f p.1, v) :: zipV f l r := rfl
theorem zip_any (hf : ∀ a b, f a = f b → a = b) (k : α) : ∀ (l : List (α × D)) (vs : List V), DVs K ρ H (l.map (·.2)) vs → ((zipV f l vs).any fun kv => decide (kv.1 = f k)) = hasDK l k
  | [], vs, h => by rfl
  | p :: l, vs, h => by
    obtain ⟨v, r, rfl, h1, h2⟩ := h
    have ih := zip_any hf k l r h2
    show (decide (f p.1 = f k) || ((zipV f l r).any fun kv => decide (kv.1 = f k))) = (decide (p.1 = k) || hasDK l k)
    rw [ih]
    congr 1
    exact decide_eq_decide.mpr ⟨hf _ _, fun e => by rw [e]⟩
theorem zip_val (hf : ∀ a b, f a = f b → a = b) (k : α) : ∀ (l : List (α × D)) (vs : List V) (d : D), DVs K ρ H (l.map (·.2)) vs → getDK l k = some d → ∃ v, valV (zipV f l vs) (f k) = some v ∧ DV K ρ H d v
  | [], vs, d, h, e => by cases e
  | p :: l, vs, d, h, e => by
    obtain ⟨v, r, rfl, h1, h2⟩ := h
    by_cases c : p.1 = k
    · have e' : some p.2 = some d := by
        have z := e
        unfold getDK at z
        rw [List.find?_cons, decide_eq_true c] at z
        exact z
      cases e'
      exact ⟨v, valV_pos (p := (f p.1, v)) (by rw [c]), h1⟩
    · have e' : getDK l k = some d := by
        unfold getDK at e ⊢
        rw [List.find?_cons, decide_eq_false c] at e
        exact e
      obtain ⟨w, e2, dw⟩ := zip_val hf k l r d h2 e'
      exact ⟨w, (valV_neg (p := (f p.1, v)) fun z => c (hf _ _ z)).trans e2, dw⟩
theorem zip_map (hf : ∀ a b, f a = f b → a = b) (k : α) (d : D) (v : V) (dv : DV K ρ H d v) : ∀ (l : List (α × D)) (vs : List V), DVs K ρ H (l.map (·.2)) vs →
    ∃ vs', ((zipV f l vs).map fun kv => if kv.1 = f k then (kv.1, v) else kv) = zipV f (l.map fun p => if p.1 = k then (p.1, d) else p) vs' ∧ DVs K ρ H ((l.map fun p => if p.1 = k then (p.1, d) else p).map (·.2)) vs'
  | [], vs, h => ⟨[], rfl, rfl⟩
  | p :: l, vs, h => by
    obtain ⟨w, r, rfl, h1, h2⟩ := h
    obtain ⟨vs', e, dvs⟩ := zip_map hf k d v dv l r h2
    by_cases c : p.1 = k
    · refine ⟨v :: vs', ?_, ?_⟩
      · rw [zipV_cons, List.map_cons, e, List.map_cons, if_pos c]
        show (if f p.1 = f k then (f p.1, v) else (f p.1, w)) :: _ = _
        rw [if_pos (by rw [c])]; rfl
      · rw [List.map_cons, if_pos c]
        exact ⟨v, vs', rfl, dv, dvs⟩
    · refine ⟨w :: vs', ?_, ?_⟩
      · rw [zipV_cons, List.map_cons, e, List.map_cons, if_neg c]
        show (if f p.1 = f k then (f p.1, v) else (f p.1, w)) :: _ = _
        rw [if_neg fun z => c (hf _ _ z)]; rfl
      · rw [List.map_cons, if_neg c]
        exact ⟨w, vs', rfl, h1, dvs⟩
theorem zip_put (hf : ∀ a b, f a = f b → a = b) {k : α} {d : D} {v : V} (dv : DV K ρ H d v) {l : List (α × D)} {vs : List V} (h : DVs K ρ H (l.map (·.2)) vs) :
    ∃ vs', putK (zipV f l vs) (f k) v = zipV f (setDK l k d) vs' ∧ DVs K ρ H ((setDK l k d).map (·.2)) vs' := by
  unfold putK setDK
  rw [zip_any hf k l vs h]
  by_cases c : hasDK l k = true
  · rw [if_pos c, if_pos c]
    exact zip_map hf k d v dv l vs h
  · rw [if_neg c, if_neg c]
    refine ⟨vs ++ [v], ?_, ?_⟩
    · have hl : (l.map fun p => f p.1).length = vs.length := by rw [List.length_map, h.length, List.length_map]
      show _ = ((l ++ [(k, d)]).map fun p => f p.1).zip (vs ++ [v])
      rw [List.map_append, List.zip_append hl]; rfl
    · rw [List.map_append]
      exact h.append ⟨v, [], rfl, dv, rfl⟩
theorem zip_len {l : List (α × D)} {vs : List V} (h : DVs K ρ H (l.map (·.2)) vs) : (zipV f l vs).length = l.length := by
  have := h.length
  rw [List.length_map] at this
  rw [List.length_zip, List.length_map, this, Nat.min_self]
end
theorem inl_inj : ∀ a b : Int, (Sum.inl a : Key) = Sum.inl b → a = b := fun _ _ h => Sum.inl.inj h
theorem inls_inj : ∀ a b : List Int, a.map (Sum.inl : Int → Key) = b.map Sum.inl → a = b := fun _ _ h => (List.map_inj_right fun _ _ e => Sum.inl.inj e).mp h
theorem tup_key {K : PySem.W.Frag} {ρ : List Addr} {H : Hp} {ks : List Int} {v : V} (h : DV K ρ H (.tup (ks.map D.int)) v) : ∃ a, v = .ref a ∧ H a = some (.tup ((ks.map (Sum.inl : Int → Key)).map kV)) := by
  obtain ⟨a, vs, rfl, h1, h2⟩ := h
  refine ⟨a, rfl, ?_⟩
  rw [h1.2, DVs.ints h2, List.map_map]
  rfl
/-! ### {}, set(..) -/
section
variable {X : Cx} {W : WX} {pos p : Pos}
/-- {} with ints for keys, with tuples of ints for keys -/
def dDNew : DE := fun σ h X Q => Q (.ref h.length) (h ++ [.dk []])
def dDNewT : DE := fun σ h X Q => Q (.ref h.length) (h ++ [.dt []])
theorem end_at {ρ : List Addr} {h : DHp} {p : Addr} (hl : ρ.length = h.length) : (ρ ++ [p])[h.length]? = some p := by rw [← hl, List.getElem?_append_right (Nat.le_refl _), Nat.sub_self]; rfl
theorem se_dnew : SE X W (.Dict [] [] pos) dDNew := PE.imp pe_dnewK fun σ H Q w q np => by
  obtain ⟨ρ, σd, h, Xd, Qd, hr, sr, w, kx, k⟩ := w
  exact k (ρ ++ [q]) (.ref h.length) _ _ _ (.push np) (hr.push (b := .dk []) np ⟨[], upd_same, rfl⟩) ⟨q, rfl, end_at hr.len⟩ w
theorem se_dnewT : SE X W (.Dict [] [] pos) dDNewT := PE.imp pe_dnewT fun σ H Q w q np => by
  obtain ⟨ρ, σd, h, Xd, Qd, hr, sr, w, kx, k⟩ := w
  exact k (ρ ++ [q]) (.ref h.length) _ _ _ (.push np) (hr.push (b := .dt []) np ⟨[], upd_same, rfl⟩) ⟨q, rfl, end_at hr.len⟩ w
/-- set(a list of ints) -/
def nSetL : DN := fun ds h Q => ∃ d, ∃ ns : List Int, ds = [d] ∧ asL h d = some (ns.map D.int) ∧ ns.length ≤ 4000 ∧ ∀ n, n ≤ ns.length → Q (.ref h.length) (h ++ [.st (fun k => decide (k ∈ ns)) n])
def rSetL' (K : PySem.W.Frag) : List V → Hp → VK → Prop := fun xs H Q => ∃ (l : Addr) (ns : List Int), xs = [.ref l] ∧ SqL K H l (ns.map V.int) ∧ ns.length ≤ 4000 ∧ ∀ p n, n ≤ ns.length → H p = none → Q (.ref p) (upd H p (.set (fun k => decide (k ∈ ns)) n))
theorem met_any (ns : List Int) : (fun k' => (firstMet (fun i => ns.getD i 0) ns.length).any (· == k')) = fun k' => decide (k' ∈ ns) := by
  funext k
  rw [firstMet_any]
  have e : (List.range ns.length).map (fun i => ns.getD i 0) = ns := by
    refine List.ext_getElem? fun i => ?_
    rw [List.getElem?_map]
    by_cases hi : i < ns.length
    · rw [List.getElem?_range hi, Option.map_some, List.getD_eq_getElem?_getD, List.getElem?_eq_getElem hi]; rfl
    · rw [List.getElem?_eq_none (by simp; omega), List.getElem?_eq_none (by omega)]; rfl
  rw [e, Bool.eq_iff_iff, List.any_eq_true, decide_eq_true_eq]
  exact ⟨fun ⟨x, hx, ex⟩ => by rw [← eq_of_beq ex]; exact hx, fun hx => ⟨k, hx, beq_self_eq_true k⟩⟩
theorem cr_setL (hc : X.calm = true) : CallR X (.type "set") (rSetL' X.K) := by
  intro pins s σ H xs us Q I r ⟨l, ns, ex, hq, hl, q⟩
  subst ex
  obtain ⟨u, rfl, ru⟩ : ∃ u, us = [u] ∧ RelV (.ref l) u := by cases r with | cons a b => cases b; exact ⟨_, rfl, a⟩
  cases ru
  obtain ⟨its, rv, pl, _⟩ := I.list hq
  have hi : IntsAre its ns := ints_of_vals rv
  have hlen : its.length = ns.length := by rw [← rv.length, List.length_map]
  have hsz : its.toArray.size = ns.length := by rw [List.size_toArray, hlen]
  refine PySem.call_set_list (items := its.toArray) (ns := ns) (I.ok.hd hc) pl.isList hi (by rw [hsz]; unfold scanBound; omega) fun h' tk hS hk => ?_
  rw [hsz, met_any] at hS
  have fresh := I.hok.fresh (Nat.le_refl s.heap.objs.size)
  exact ⟨.ref s.heap.objs.size, _, I.laid (t' := tk) (o := .set (fun k' => decide (k' ∈ ns)) _) (fun b u e => hk b u (Heap.lt_size e) e) (Nat.le_refl _) hS, rfl, q _ _ (firstMet_length_le _ _) fresh⟩
theorem L_setL {K : PySem.W.Frag} : LNok K nSetL (rSetL' K) := by
  intro ρ h H xs vs Qd Q hr dvs ⟨d, ns, ed, e, hl, q⟩ k
  subst ed
  obtain ⟨v, rfl, dv⟩ := dvs.un
  obtain ⟨a, ws, rfl, hq, dl⟩ := asL_at hr dv e
  rw [DVs.ints dl] at hq
  exact ⟨a, ns, rfl, hq, hl, fun p n hn np => k (ρ ++ [p]) (.ref h.length) _ _ _ (.push np) (hr.push (b := .st (fun k => decide (k ∈ ns)) n) np upd_same) ⟨p, rfl, end_at hr.len⟩ (q n hn)⟩
variable {e : Expr} {es : List Expr} {ts : DA}
theorem se_setL (hc : X.calm = true) (hm : X.mg "set" = none) (ha : SA X W (e :: es) ts) (hg : Gl X "set" := by rfl) (he : starEach (e :: es) X.env = (false, eval e X.env) :: starEach es X.env := by rfl) (hpl : (backTo pos (starEach es X.env)).any (·.1) = false := by rfl) :
    SE X W (.Call (.Name "set" p) (e :: es) [] pos) (dCB nSetL ts) := se_ct (cr_setL hc) L_setL hg hm (by decide +kernel) ha (he := he) (hpl := hpl)
end
/-! ### in -/
def dInC (neg : Bool) : D2 := fun x y h Q => ∃ i b, y = .ref i ∧ ((∃ l k, h[i]? = some (.dk l) ∧ x = .int k ∧ b = hasDK l k) ∨ (∃ l ks, h[i]? = some (.dt l) ∧ x = .tup (ks.map D.int) ∧ b = hasDK l ks) ∨ ∃ S n k, h[i]? = some (.st S n) ∧ x = .int k ∧ b = S k) ∧ Q (.bl (if neg = true then !b else b)) h
def rInC (neg : Bool) : R2 := fun x y H Q => (∃ a o, y = .ref a ∧ DGet H a x o ∧ Q (.bl (if neg = true then !o.isSome else o.isSome)) H) ∨ ∃ k a S n, x = .int k ∧ y = .ref a ∧ H a = some (.set S n) ∧ Q (.bl (if neg = true then !S k else S k)) H
section
variable {X : Cx} {W : WX} {pos : Pos} {a b : Expr} {da db : DE}
theorem set_of {K : PySem.W.Frag} {pins : List (Addr × Obj)} {σ : St} {H : Hp} {s : Shared} {p : Addr} {S : Int → Bool} {n : Nat} (I : Inv X pins σ H s) (e : H p = some (.set S n)) : s.heap.SetOf (intKind X.prog X.w) p S n := I.hok p _ e
theorem op_inC (hu : X.A.units + 1 < cLine) : OpR X (compareOp .In) (rInC false) := by
  intro pins s σ H x y v u Q I rx ry h
  rcases h with ⟨p, o, rfl, g, q⟩ | ⟨k, p, S, n, rfl, rfl, e, q⟩
  · cases ry
    exact d_in hu I g rx fun s' I' => ⟨.bl o.isSome, H, I', rfl, q⟩
  · cases ry
    obtain ⟨tk, rfl⟩ := rx
    exact wpAny_inSet_of (intKind_is _ _ _ _) rfl (set_of (K := X.K) I e) ⟨.bl (S k), H, I.tok _, rfl, q⟩
theorem op_notInC (hu : X.A.units + 1 < cLine) : OpR X (compareOp .NotIn) (rInC true) := by
  intro pins s σ H x y v u Q I rx ry h
  rcases h with ⟨p, o, rfl, g, q⟩ | ⟨k, p, S, n, rfl, rfl, e, q⟩
  · cases ry
    exact d_notIn hu I g rx fun s' I' => ⟨.bl (!o.isSome), H, I', rfl, q⟩
  · cases ry
    obtain ⟨tk, rfl⟩ := rx
    exact wpAny_notInSet_of (intKind_is _ _ _ _) rfl (set_of (K := X.K) I e) ⟨.bl (!S k), H, I.tok _, rfl, q⟩
theorem some_any {α : Type} [DecidableEq α] {β : Type} [DecidableEq β] {f : α → β} {K : PySem.W.Frag} {ρ : List Addr} {H : Hp} (hf : ∀ a b, f a = f b → a = b) (k : α) (l : List (α × D)) (vs : List V) (h : DVs K ρ H (l.map (·.2)) vs) : (valV (zipV f l vs) (f k)).isSome = hasDK l k :=
  (valV_any _ _).symm.trans (zip_any hf k l vs h)
theorem L_inC {K : PySem.W.Frag} {neg : Bool} : L2ok K (dInC neg) (rInC neg) := by
  intro ρ h H x y vx vy Qd Q hr dx dy ⟨i, b, ey, w, q⟩ k
  subst ey
  obtain ⟨p, rfl, hp⟩ := dy
  rcases w with ⟨l, j, hi, rfl, eb⟩ | ⟨l, js, hi, rfl, eb⟩ | ⟨S, n, j, hi, rfl, eb⟩
  · obtain ⟨vs, hH, dvs⟩ := hr.at_ i _ p hi hp
    have ex : vx = .int j := dx
    subst ex eb
    refine .inl ⟨p, _, rfl, DGet.k (k := .inl j) hH, ?_⟩
    rw [some_any inl_inj j l vs dvs]
    exact k ρ (.bl _) h _ H .refl hr rfl q
  · obtain ⟨vs, hH, dvs⟩ := hr.at_ i _ p hi hp
    obtain ⟨t, rfl, ht⟩ := tup_key dx
    subst eb
    refine .inl ⟨p, _, rfl, DGet.t hH ht, ?_⟩
    rw [some_any inls_inj js l vs dvs]
    exact k ρ (.bl _) h _ H .refl hr rfl q
  · have hH : H p = some (.set S n) := hr.at_ i _ p hi hp
    have ex : vx = .int j := dx
    subst ex eb
    exact .inr ⟨j, p, S, n, rfl, rfl, hH, k ρ (.bl _) h _ H .refl hr rfl q⟩
theorem se_inC (hu : X.A.units + 65 < cLine) (ha : SE X W a da) (hb : SE X W b db) (hm : behindInMarks .In b = false := by rfl) : SE X W (.Compare a [.In] [b] pos) (dOp (dInC false) da db) := se_cmp (op_inC (by omega)) L_inC ha hb hm
theorem st_inC (hu : X.A.units + 65 < cLine) (ha : SE X W a da) (hb : SE X W b db) (hm : behindInMarks .In b = false := by rfl) : ST X W (.Compare a [.In] [b] pos) (dTst (dOp (dInC false) da db)) := st_cmp (op_inC (by omega)) L_inC ha hb hm
theorem se_notInC (hu : X.A.units + 65 < cLine) (ha : SE X W a da) (hb : SE X W b db) (hm : behindInMarks .NotIn b = false := by rfl) : SE X W (.Compare a [.NotIn] [b] pos) (dOp (dInC true) da db) := se_cmp (op_notInC (by omega)) L_inC ha hb hm
theorem st_notInC (hu : X.A.units + 65 < cLine) (ha : SE X W a da) (hb : SE X W b db) (hm : behindInMarks .NotIn b = false := by rfl) : ST X W (.Compare a [.NotIn] [b] pos) (dTst (dOp (dInC true) da db)) := st_cmp (op_notInC (by omega)) L_inC ha hb hm
end
/-! ### d[k] = v, d[k] -/
/-- the keys, the table it is put in -/
def putC (h : DHp) (x y v : D) (Q : DHp → Prop) : Prop := ∃ i, x = .ref i ∧ ((∃ l k, h[i]? = some (.dk l) ∧ y = .int k ∧ l.length < sizeLine ∧ Q (h.set i (.dk (setDK l k v)))) ∨ ∃ l ks, h[i]? = some (.dt l) ∧ y = .tup (ks.map D.int) ∧ l.length < sizeLine ∧ Q (h.set i (.dt (setDK l ks v))))
def sDPutD (dd dk dv : DE) : DS := fun E σ h => dv σ h (E.xx σ) fun v h1 => dd σ h1 (E.xx σ) fun x h2 => dk σ h2 (E.xx σ) fun y h3 => putC h3 x y v fun h4 => E.nx σ h4
section
variable {X : Cx} {W : WX} {pos pos' : Pos} {o i value : Expr} {dd dk dv : DE}
theorem s1_dput (hu : X.A.units + 65 < cLine) (ho : SE X W o dd) (hi : SE X W i dk) (hv : SE X W value dv) (hs : swapsWith value (some (.Subscript o i pos')) pos.line X.env = pure false := by rfl) : S1 X W (.Assign [.Subscript o i pos'] value pos) (sDPutD dd dk dv) := PS.imp (ps_dput (by omega) ho hi hv hs) fun Dn σ H w => by
  obtain ⟨ρ0, H0, ρ, σd, h, E, e0, hr, sr, w, k⟩ := w
  refine lE.go hr sr w (k.xw e0) fun ρ1 d1 h1 v1 H1 e1 hr1 sr1 kx1 dv1 w1 => lE.go hr1 sr1 w1 kx1 fun ρ2 d2 h2 v2 H2 e2 hr2 sr2 kx2 dv2 w2 => lE.go hr2 sr2 w2 kx2 fun ρ3 d3 h3 v3 H3 e3 hr3 sr3 kx3 dv3 w3 => ?_
  obtain ⟨j, rfl, w3⟩ := w3
  obtain ⟨p, rfl, hp⟩ := dv2.ext e3
  have dv1' := (dv1.ext e2).ext e3
  have eh := ((e0.trans e1).trans e2).trans e3
  rcases w3 with ⟨l, n, hj, rfl, hl, q⟩ | ⟨l, ns, hj, rfl, hl, q⟩
  · obtain ⟨vs, hH, dvs⟩ := hr3.at_ j _ p hj hp
    have ey : v3 = .int n := dv3
    subst ey
    refine ⟨p, _, rfl, DPut.k (k := .inl n) hH (by rw [zip_len dvs]; exact hl), ?_⟩
    obtain ⟨vs', e, dvs'⟩ := zip_put inl_inj (k := n) dv1' dvs
    rw [e]
    have ee : Ext ρ3 H3 ρ3 (upd H3 p (.dK (zipV Sum.inl (setDK l n d1) vs'))) := .write (List.mem_of_getElem? hp)
    exact k.nx ρ3 _ _ _ _ (eh.trans ee) (hr3.write (b := .dk (setDK l n d1)) hp ⟨vs', upd_same, DVs.ext ee _ _ dvs'⟩) (sr3.ext ee) q
  · obtain ⟨vs, hH, dvs⟩ := hr3.at_ j _ p hj hp
    obtain ⟨t, rfl, ht⟩ := tup_key dv3
    refine ⟨p, _, rfl, DPut.t hH ht (by rw [zip_len dvs]; exact hl), ?_⟩
    obtain ⟨vs', e, dvs'⟩ := zip_put inls_inj (k := ns) dv1' dvs
    rw [e]
    have ee : Ext ρ3 H3 ρ3 (upd H3 p (.dT (zipV (List.map Sum.inl) (setDK l ns d1) vs'))) := .write (List.mem_of_getElem? hp)
    exact k.nx ρ3 _ _ _ _ (eh.trans ee) (hr3.write (b := .dt (setDK l ns d1)) hp ⟨vs', upd_same, DVs.ext ee _ _ dvs'⟩) (sr3.ext ee) q
def dGetC : D2 := fun x y h Q => ∃ i d, x = .ref i ∧ ((∃ l k, h[i]? = some (.dk l) ∧ y = .int k ∧ getDK l k = some d) ∨ ∃ l ks, h[i]? = some (.dt l) ∧ y = .tup (ks.map D.int) ∧ getDK l ks = some d) ∧ Q d h
theorem se_dget (hu : X.A.units + 65 < cLine) (ho : SE X W o dd) (hi : SE X W i dk) (hs : NoSl i := by exact fun _ _ => rfl) : SE X W (.Subscript o i pos) (dOp dGetC dd dk) := PE.imp (pe_dget (by omega) ho hi hs) fun σ H Q w => by
  obtain ⟨ρ, σd, h, Xd, Qd, hr, sr, w, kx, k⟩ := w
  refine lE.go hr sr w kx fun ρ1 d1 h1 v1 H1 e1 hr1 sr1 kx1 dv1 w1 => lE.go hr1 sr1 w1 kx1 fun ρ2 d2 h2 v2 H2 e2 hr2 sr2 kx2 dv2 w2 => ?_
  obtain ⟨j, d, rfl, w2, q⟩ := w2
  obtain ⟨p, rfl, hp⟩ := dv1.ext e2
  rcases w2 with ⟨l, n, hj, rfl, hg⟩ | ⟨l, ns, hj, rfl, hg⟩
  · obtain ⟨vs, hH, dvs⟩ := hr2.at_ j _ p hj hp
    have ey : v2 = .int n := dv2
    subst ey
    obtain ⟨v, ev, dv⟩ := zip_val inl_inj n l vs d dvs hg
    exact ⟨p, v, rfl, by rw [← ev]; exact DGet.k (k := .inl n) hH, k ρ2 d h2 v H2 (e1.trans e2) hr2 dv q⟩
  · obtain ⟨vs, hH, dvs⟩ := hr2.at_ j _ p hj hp
    obtain ⟨t, rfl, ht⟩ := tup_key dv2
    obtain ⟨v, ev, dv⟩ := zip_val inls_inj ns l vs d dvs hg
    exact ⟨p, v, rfl, by rw [← ev]; exact DGet.t hH ht, k ρ2 d h2 v H2 (e1.trans e2) hr2 dv q⟩
end
/-! ### min and max of three -/
def nI3 (f : Int → Int → Int → Int) : DN := fun ds h Q => ∃ i j k, ds = [.int i, .int j, .int k] ∧ Q (.int (f i j k)) h
section
variable {X : Cx} {W : WX} {pos p : Pos} {e : Expr} {es : List Expr} {ts : DA}
theorem lt3 (i j : Int) : nuMin2 (.int i) (.int j) = some (.int (if j < i then j else i)) := by
  show (nuLt (.int j) (.int i)).map _ = _
  have z : nuLt (.int j) (.int i) = some (decide (j < i)) := rfl
  rw [z, Option.map_some]
  by_cases c : j < i
  · rw [decide_eq_true c, if_pos c]; rfl
  · rw [decide_eq_false c, if_neg c]; rfl
def min3 (i j k : Int) : Int := let m := if j < i then j else i; if k < m then k else m
theorem L_min3 {K : PySem.W.Frag} : LNok K (nI3 min3) (rNuC3 nuMin3) := by
  intro ρ h H xs vs Qd Q hr dvs ⟨i, j, k, ed, q⟩ kk
  subst ed
  obtain ⟨v, r, rfl, h1, v2, r2, rfl, h2, v3, r3, rfl, h3, rfl⟩ := dvs
  cases (show v = .int i from h1)
  cases (show v2 = .int j from h2)
  cases (show v3 = .int k from h3)
  refine ⟨_, _, _, .int (min3 i j k), rfl, ?_, kk ρ (.int (min3 i j k)) h _ H .refl hr rfl q⟩
  unfold nuMin3
  rw [lt3, Option.bind_some, lt3]; rfl
theorem se_min3 (hc : X.calm = true) (hm : X.mg "min" = none) (ha : SA X W (e :: es) ts) (hg : Gl X "min" := by rfl) (he : starEach (e :: es) X.env = (false, eval e X.env) :: starEach es X.env := by rfl) (hpl : (backTo pos (starEach es X.env)).any (·.1) = false := by rfl) :
    SE X W (.Call (.Name "min" p) (e :: es) [] pos) (dCB (nI3 min3) ts) := se_cb (call_min3Nu hc) L_min3 hg hm (by decide +kernel) ha (he := he) (hpl := hpl)
theorem min3_eq {i j k : Int} {h : DHp} {Q : DK} : nI3 min3 [.int i, .int j, .int k] h Q ↔ Q (.int (min3 i j k)) h := ⟨fun ⟨_, _, _, e, q⟩ => by cases e; exact q, fun q => ⟨_, _, _, rfl, q⟩⟩
end
end L2.MW

/-! MW, part S: what the laws' readings share. -/
namespace L2.MW
open PySem PySem.Spec PyProof.Rows
theorem mod_nat (x n : Nat) : ((x : Int) % (n : Int)) = ((x % n : Nat) : Int) := (Int.natCast_emod x n).symm
theorem div_nat (x n : Nat) : ((x : Int) / (n : Int)) = ((x / n : Nat) : Int) := (Int.natCast_ediv x n).symm
theorem min_nat (a b : Nat) : (if (b : Int) < (a : Int) then (b : Int) else (a : Int)) = ((min a b : Nat) : Int) := by split <;> omega
theorem max_nat (a b : Nat) : (if (b : Int) > (a : Int) then (b : Int) else (a : Int)) = ((max a b : Nat) : Int) := by split <;> omega
/-- a comprehension over typed things -/
theorem lc_mapT {α : Type} {g : DG} {tt : DT} {te : DE} {G : DHp → Prop} {h1 : DHp} {σ : DSt} {Q : DHp → Prop} (src : List α) (inj f : α → D) (hG : ∀ acc, G (h1 ++ [.lst acc])) (hl : src.length ≤ 4000000)
    (hx : ∀ i (hi : i < src.length), ∀ (acc : List D) (R : DHp → Prop), acc.length < 16777216 → R (h1 ++ [.lst (acc ++ [f src[i]])]) →
      g (inj src[i]) σ (h1 ++ [.lst acc]) X0 fun σ2 h2 => tt σ2 h2 X0 fun b h3 => (b = true → te σ2 h3 X0 fun y h4 => ∃ acc, h4[h1.length]? = some (.lst acc) ∧ acc.length < sizeLine ∧ R (h4.set h1.length (.lst (acc ++ [y])))) ∧ (b = false → R h3))
    (q : Q (h1 ++ [.lst (src.map f)])) : lcH g tt te G h1.length σ (src.map inj) (h1 ++ [.lst []]) Q := by
  have gen : ∀ (n k : Nat), k + n = src.length → lcH g tt te G h1.length σ ((src.drop k).map inj) (h1 ++ [.lst ((src.take k).map f)]) Q := by
    intro n
    induction n with
    | zero =>
      intro k e
      rw [List.drop_eq_nil_of_le (by omega), List.take_of_length_le (by omega)]
      exact ⟨hG _, q⟩
    | succ n ih =>
      intro k e
      have hk : k < src.length := by omega
      rw [List.drop_eq_getElem_cons hk]
      refine ⟨hG _, hx k hk _ (fun hh => lcH g tt te G h1.length σ ((src.drop (k + 1)).map inj) hh Q) (by rw [List.length_map, List.length_take]; omega) ?_⟩
      have := ih (k + 1) (by omega)
      rw [List.take_succ_eq_append_getElem hk, List.map_append] at this
      exact this
  exact gen src.length 0 (by omega)
/-- a comprehension, by an invariant -/
theorem lc_inv {g : DG} {tt : DT} {te : DE} {G : DHp → Prop} {h1 : DHp} {σ : DSt} {Q : DHp → Prop} (items : List D) (I : Nat → List D → Prop) (hG : ∀ acc, G (h1 ++ [.lst acc])) (h0 : I 0 [])
    (hx : ∀ i x acc (R : DHp → Prop), items[i]? = some x → i < items.length → I i acc → (∀ acc', I (i + 1) acc' → R (h1 ++ [.lst acc'])) →
      g x σ (h1 ++ [.lst acc]) X0 fun σ2 h2 => tt σ2 h2 X0 fun b h3 => (b = true → te σ2 h3 X0 fun y h4 => ∃ acc, h4[h1.length]? = some (.lst acc) ∧ acc.length < sizeLine ∧ R (h4.set h1.length (.lst (acc ++ [y])))) ∧ (b = false → R h3))
    (q : ∀ acc, I items.length acc → Q (h1 ++ [.lst acc])) : lcH g tt te G h1.length σ items (h1 ++ [.lst []]) Q := by
  have gen : ∀ (n k : Nat) (acc : List D), k + n = items.length → I k acc → lcH g tt te G h1.length σ (items.drop k) (h1 ++ [.lst acc]) Q := by
    intro n
    induction n with
    | zero =>
      intro k acc e hI
      rw [List.drop_eq_nil_of_le (by omega)]
      have : k = items.length := by omega
      subst this
      exact ⟨hG _, q _ hI⟩
    | succ n ih =>
      intro k acc e hI
      have hk : k < items.length := by omega
      rw [List.drop_eq_getElem_cons hk]
      exact ⟨hG _, hx k _ acc (fun hh => lcH g tt te G h1.length σ (items.drop (k + 1)) hh Q) (List.getElem?_eq_getElem hk) hk hI fun acc' h' => ih (k + 1) acc' (by omega) h'⟩
  exact gen items.length 0 [] (by omega) h0
/-- some member of a list of n -/
theorem pick {l : List D} {n : Nat} {P : D → Prop} (x : Nat) (e : l.length = n) (h0 : 0 < n) (hP : ∀ d ∈ l, P d) : ∃ d, P d ∧ atI l ((x : Int) % (n : Int)) = some d := by
  have h1 : x % n < l.length := by rw [e]; exact Nat.mod_lt _ h0
  refine ⟨l[x % n], hP _ (List.getElem_mem h1), ?_⟩
  rw [mod_nat]
  exact atI_nat (List.getElem?_eq_getElem h1)
theorem nats_bits : ∀ {r : List Nat}, (∀ x ∈ r, x < 2) → ∃ w : List Bool, nats r = w.map bitD ∧ w.length = r.length
  | [], _ => ⟨[], rfl, rfl⟩
  | x :: r, h => by
    obtain ⟨w, e, l⟩ := nats_bits (r := r) fun y hy => h y (List.mem_cons_of_mem _ hy)
    have hx := h x List.mem_cons_self
    refine ⟨(x == 1) :: w, ?_, by simp [l]⟩
    unfold nats at e ⊢
    rw [List.map_cons, List.map_cons, e]
    rcases (show x = 0 ∨ x = 1 by omega) with rfl | rfl <;> rfl
def lnt (n : Nat) (d : D) : Prop := ∃ j : Nat, j ≤ n ∧ d = .int (j : Int)
theorem lnt_mod (n x : Nat) (h : 0 < n) : lnt (n - 1) (.int ((x : Int) % (n : Int))) := ⟨x % n, by have := Nat.mod_lt x h; omega, by rw [mod_nat]⟩
theorem lnt.up {n m : Nat} (h : n ≤ m) {d : D} (l : lnt n d) : lnt m d := by obtain ⟨j, h1, e⟩ := l; exact ⟨j, Nat.le_trans h1 h, e⟩
theorem cut_mid {l : List D} {i n : Nat} (h : i + n ≤ l.length) : cutD l (some (i : Int)) (some ((i + n : Nat) : Int)) = (l.drop i).take n := by
  unfold cutD
  rw [HT.sIx_nat, HT.sIx_nat, Nat.min_eq_left h, Nat.min_eq_left (by omega), Nat.add_sub_cancel_left]
theorem asS_app {H g : DHp} {d : D} {l : List D} (e : asS H d = some l) : asS (H ++ g) d = some l := by
  cases d with
  | ref i =>
    have e' : (match H[i]? with | some (.lst l) => some l | _ => none) = some l := e
    show (match (H ++ g)[i]? with | some (.lst l) => some l | _ => none) = some l
    have hi : i < H.length := by
      rcases Nat.lt_or_ge i H.length with z | z
      · exact z
      · rw [List.getElem?_eq_none z] at e'; cases e'
    rw [List.getElem?_append_left hi]; exact e'
  | _ => exact e
theorem at2 {h : DHp} {b c : HB} : (h ++ [b, c])[h.length + 1]? = some c := by rw [List.getElem?_append_right (by omega)]; simp
theorem at1 {h : DHp} {b c : HB} : (h ++ [b, c])[h.length]? = some b := by rw [List.getElem?_append_right (by omega)]; simp
theorem set2 {h : DHp} {b c e : HB} : (h ++ [b, c]).set (h.length + 1) e = h ++ [b, e] := by rw [List.set_append_right _ _ (by omega)]; simp
theorem set1 {h : DHp} {b c e : HB} : (h ++ [b, c]).set h.length e = h ++ [e, c] := by rw [List.set_append_right _ _ (by omega)]; simp
theorem Bds_bits {m : Nat} {l : List Bool} : Bds m (l.map bitD) := Bds_all' fun x hx => by
  obtain ⟨b, _, rfl⟩ := List.mem_map.mp hx
  trivial
theorem cut_mid0 {l : List D} {n : Nat} : cutD l none (some (n : Int)) = l.take n := cut_take
/-! ### results -/
theorem FzDs.all {n : Nat} {h : DHp} {x : Option Nat} : ∀ {l : List D}, Bds n l → FzDs n h x l l
  | [], _ => .nil
  | d :: l, b => .cons d d l l (.same d b.1) (FzDs.all b.2)
theorem rt_fz {h g : DHp} {X : DX} {Q : DK} {d d' : D} (f : FzD h.length (h ++ g) none d d') (q : Q d' h) : (endsD h X Q).rt d (h ++ g) := ⟨_, _, .fz d d' g f, q⟩
theorem rt_one {h g : DHp} {X : DX} {Q : DK} {i : Nat} {l l' : List D} (hi : h.length ≤ i) (e : (h ++ g)[i]? = some (.lst l)) (f : FzDs h.length (h ++ g) (some i) l l') (q : Q (.ref h.length) (h ++ [.lst l'])) : (endsD h X Q).rt (.ref i) (h ++ g) := ⟨_, _, .one i l l' g hi e f, q⟩
end L2.MW

/-! MW, part K: what dicts and sets answer; set(), set.add. -/
namespace L2.MW
open PySem PySem.Spec PyProof.Rows
theorem in_st {neg : Bool} {k : Int} {i n : Nat} {S : Int → Bool} {h : DHp} {Q : DK} (e : h[i]? = some (.st S n)) : dInC neg (.int k) (.ref i) h Q ↔ Q (.bl (if neg = true then !S k else S k)) h := by
  constructor
  · rintro ⟨j, b, ej, w, q⟩
    cases ej
    rcases w with ⟨l, m, e', _⟩ | ⟨l, m, e', _⟩ | ⟨S', n', m, e', em, rfl⟩
    · rw [e] at e'; cases e'
    · rw [e] at e'; cases e'
    · rw [e] at e'; cases e'; cases em; exact q
  · exact fun q => ⟨i, _, rfl, .inr (.inr ⟨S, n, k, e, rfl, rfl⟩), q⟩
theorem in_dk {neg : Bool} {k : Int} {i : Nat} {l : List (Int × D)} {h : DHp} {Q : DK} (e : h[i]? = some (.dk l)) : dInC neg (.int k) (.ref i) h Q ↔ Q (.bl (if neg = true then !hasDK l k else hasDK l k)) h := by
  constructor
  · rintro ⟨j, b, ej, w, q⟩
    cases ej
    rcases w with ⟨l', m, e', em, rfl⟩ | ⟨l', m, e', _⟩ | ⟨S', n', m, e', _⟩
    · rw [e] at e'; cases e'; cases em; exact q
    · rw [e] at e'; cases e'
    · rw [e] at e'; cases e'
  · exact fun q => ⟨i, _, rfl, .inl ⟨l, k, e, rfl, rfl⟩, q⟩
theorem put_dk {i : Nat} {k : Int} {l : List (Int × D)} {v : D} {h : DHp} {Q : DHp → Prop} (e : h[i]? = some (.dk l)) : putC h (.ref i) (.int k) v Q ↔ l.length < sizeLine ∧ Q (h.set i (.dk (setDK l k v))) := by
  constructor
  · rintro ⟨j, ej, w⟩
    cases ej
    rcases w with ⟨l', m, e', em, hl, q⟩ | ⟨l', m, e', _⟩
    · rw [e] at e'; cases e'; cases em; exact ⟨hl, q⟩
    · rw [e] at e'; cases e'
  · exact fun ⟨hl, q⟩ => ⟨i, rfl, .inl ⟨l, k, e, rfl, hl, q⟩⟩
theorem has_set {l : List (Int × D)} {k j : Int} {v : D} : hasDK (setDK l k v) j = (hasDK l j || decide (j = k)) := by
  unfold setDK
  by_cases c : hasDK l k = true
  · rw [if_pos c]
    have e : hasDK (l.map fun p => if p.1 = k then (p.1, v) else p) j = hasDK l j := by
      unfold hasDK
      rw [List.any_map]
      congr 1
      funext p
      show decide ((if p.1 = k then (p.1, v) else p).1 = j) = decide (p.1 = j)
      split <;> rfl
    rw [e]
    by_cases z : j = k
    · subst z; rw [c]; rfl
    · rw [decide_eq_false z, Bool.or_false]
  · rw [if_neg c]
    unfold hasDK
    rw [List.any_append]
    congr 1
    show (decide (k = j) || false) = _
    rw [Bool.or_false]
    exact decide_eq_decide.mpr ⟨Eq.symm, Eq.symm⟩
theorem set_len {l : List (Int × D)} {k : Int} {v : D} : (setDK l k v).length ≤ l.length + 1 := by
  unfold setDK
  split
  · rw [List.length_map]; omega
  · rw [List.length_append]; exact Nat.le_refl _
/-! ### set(), s.add(k) -/
def dSet0 : DE := fun σ h X Q => Q (.ref h.length) (h ++ [.st (fun _ => false) 0])
section
variable {X : Cx} {W : WX} {pos p : Pos}
theorem cr_setE : CallR X (.type "set") (fun xs H Q => xs = [] ∧ ∀ q, H q = none → Q (.ref q) (upd H q (.set (fun _ => false) 0))) := by
  intro pins s σ H xs us Q I r ⟨ex, w⟩
  subst ex
  cases r
  refine setR_new fun new => ?_
  have hS := new.setOf (P := X.prog)
  exact ⟨.ref s.heap.objs.size, _, I.laid (t' := s.toks) (o := .set (fun _ => false) 0) (fun b u e => Heap.get?_push_of_some _ e) (Nat.le_refl _) hS, rfl, w _ (I.hok.fresh (Nat.le_refl _))⟩
theorem se_set0 (hm : X.mg "set" = none) (hg : Gl X "set" := by rfl) : SE X W (.Call (.Name "set" p) [] [] pos) dSet0 := PE.imp (pe_callTy0 cr_setE hg hm (by decide +kernel)) fun σ H Q w => by
  obtain ⟨ρ, σd, h, Xd, Qd, hr, sr, w, kx, k⟩ := w
  exact ⟨rfl, fun q np => k (ρ ++ [q]) (.ref h.length) _ _ _ (.push np) (hr.push (b := .st (fun _ => false) 0) np upd_same) ⟨q, rfl, end_at hr.len⟩ w⟩
def rSAddI : V → List V → Hp → VK → Prop := fun x xs H Q => ∃ (a : Addr) (k : Int) (S : Int → Bool) (n : Nat), x = .ref a ∧ xs = [.int k] ∧ H a = some (.set S n) ∧ n + 1 < scanBound ∧ Q .non (upd H a (.set (fun j => S j || decide (j = k)) (if S k = true then n else n + 1)))
theorem mt_saddI : MtR X "set.add" rSAddI := by
  intro pins s σ H x xs v us Q I rx rxs ⟨a, k, S, n, ex, exs, ha, room, q⟩
  subst ex
  subst exs
  cases rx
  obtain ⟨u, rfl, ru⟩ : ∃ u, us = [u] ∧ RelV (.int k) u := by cases rxs with | cons y z => cases z; exact ⟨_, rfl, y⟩
  obtain ⟨tk, rfl⟩ := ru
  refine call_set_add (knd := intKind X.prog X.w) (intKind_is _ _ _ _) rfl (set_of (K := X.K) I ha) room fun h' sb hS => ?_
  have he : ∃ u, h'.get? a = some u := by obtain ⟨o, _, _, _, ho, _⟩ := hS; exact ⟨o, ho⟩
  exact ⟨.non, _, I.write (e := a) (t' := s.toks + 1) (o := .set (fun j => S j || decide (j = k)) (if S k = true then n else n + 1)) (by rw [ha]; trivial) (.inl rfl) (fun b u hb hu => (sb.2 b hb).trans hu) he hS, rfl, q⟩
def dSAdd (dd : DE) (ts : DA) : DE := fun σ h X Q => dd σ h X fun x h1 => (∃ i S n, x = .ref i ∧ h1[i]? = some (.st S n)) ∧ ts σ h1 X fun xs h2 => ∃ i S n k, x = .ref i ∧ xs = [.int k] ∧ h2[i]? = some (.st S n) ∧ n < 4000 ∧ Q .non (h2.set i (.st (fun j => S j || decide (j = k)) (if S k = true then n else n + 1)))
variable {e : Expr} {es : List Expr} {ts : DA} {o : Expr} {dd : DE} {apos : Pos}
theorem se_sadd (ho : SE X W o dd) (ha : SA X W (e :: es) ts) (hbase : attributeBase o "add" X.env (eval o X.env) = eval o X.env := by rfl)
    (hfew : ((backTo pos (starEach (e :: es) X.env)).all (fun x => !x.1) && (backToKw pos (keywordEach [] X.env)).all (fun x => x.1.isSome)
      && decide ((e :: es).length + ([] : List Keyword).length + (if ([] : List Keyword).isEmpty then 0 else 1) < 30)) = true := by rfl)
    (hline : (apos.endLine == pos.line) = true := by rfl) (hs : starEach (e :: es) X.env = (false, eval e X.env) :: starEach es X.env := by rfl) (hplain : (backTo pos (starEach es X.env)).any (·.1) = false := by rfl) :
    SE X W (.Call (.Attribute o "add" apos) (e :: es) [] pos) (dSAdd dd ts) := PE.imp (pe_bm PySem.F.plainAttrs_set PySem.F.slot_set_add PySem.F.type_set_add mt_saddI ho ha hbase hfew hline hs hplain) fun σ H Q w => by
  obtain ⟨ρ, σd, h, Xd, Qd, hr, sr, w, kx, k⟩ := w
  refine lE.go hr sr w kx fun ρ1 d h1 v H1 e1 hr1 sr1 kx1 dv q => ?_
  obtain ⟨⟨i0, S0, n0, rfl, hi0⟩, q⟩ := q
  obtain ⟨a, rfl, hja⟩ := dv
  have hH1 : H1 a = some (.set S0 n0) := hr1.at_ i0 _ a hi0 hja
  refine ⟨.inr (.inr (.inr ⟨rfl, S0, n0, hH1⟩)), ?_⟩
  refine lA.go hr1 sr1 q kx1 fun ρ2 ds h2 vs H2 e2 hr2 sr2 kx2 dvs q2 => ?_
  obtain ⟨i, S, n, j, ei, rfl, hi, hn, q2⟩ := q2
  have ei2 : i0 = i := D.ref.inj ei
  subst ei2
  obtain ⟨v, rfl, dv2⟩ := dvs.un
  cases (show v = .int j from dv2)
  obtain ⟨a', ea, hj2⟩ := (show DV X.K ρ1 H1 (.ref i0) (.ref a) from ⟨a, rfl, hja⟩).ext e2
  cases ea
  have hH2 : H2 a = some (.set S n) := hr2.at_ i0 _ a hi hj2
  have ee : Ext ρ2 H2 ρ2 (upd H2 a (.set (fun z => S z || decide (z = j)) (if S j = true then n else n + 1))) := .write (List.mem_of_getElem? hj2)
  exact ⟨a, j, S, n, rfl, rfl, hH2, by unfold scanBound; omega, k ρ2 .non _ _ _ ((e1.trans e2).trans ee) (hr2.write (b := .st (fun z => S z || decide (z = j)) (if S j = true then n else n + 1)) hj2 upd_same) rfl q2⟩
end
end L2.MW

namespace L2.MW
open PySem PySem.Spec PyProof.Rows L2
/-! ### a comprehension of two fors -/
def lcH2 (g : DG) (tt : DT) (ti1 : DI) (g1 : DG) (tt1 : DT) (te : DE) (G : DHp → Prop) (n : Nat) (vs1 : List Nat) (σ : DSt) : List D → DHp → (DHp → Prop) → Prop
  | [], h, Q => G h ∧ Q h
  | x :: xs, h, Q => G h ∧ g x σ h X0 fun σ2 h2 => tt σ2 h2 X0 fun b h3 =>
      (b = true → ti1 σ2 h3 X0 fun items1 G1 h4 => lcH g1 tt1 te G1 n (wipeD σ2 vs1) items1 h4 fun h5 => lcH2 g tt ti1 g1 tt1 te G n vs1 σ xs h5 Q) ∧ (b = false → lcH2 g tt ti1 g1 tt1 te G n vs1 σ xs h3 Q)
theorem lcH2_G {g : DG} {tt : DT} {ti1 : DI} {g1 : DG} {tt1 : DT} {te : DE} {G : DHp → Prop} {n : Nat} {vs1 : List Nat} {σ : DSt} {xs : List D} {h : DHp} {Q : DHp → Prop} (w : lcH2 g tt ti1 g1 tt1 te G n vs1 σ xs h Q) : G h := by
  cases xs <;> exact w.1
def dLc2 (ti : DI) (g : DG) (tt : DT) (ti1 : DI) (g1 : DG) (tt1 : DT) (te : DE) (vs vs1 : List Nat) : DE := fun σ h X Q => ti σ h X fun items G h1 => lcH2 g tt ti1 g1 tt1 te G h1.length vs1 (wipeD σ vs) items (h1 ++ [.lst []]) fun h' => ∃ acc, h' = h1 ++ [.lst acc] ∧ Bds h1.length acc ∧ Q (.lst acc) h1
/-- the inner for -/
theorem lc_inner {K : PySem.W.Frag} {T1 vs1 : List Nat} {g1 : DG} {tt1 : DT} {te : DE} {σ : St} {σd : DSt} {ρ1 : List Addr} {h1 : DHp} {H1 : Hp} {items : List D} {G : DHp → Prop} {J : It} {Dp : Addr} {n : Nat} {R : Hp → Prop} {Qh : DHp → Prop} (hT : ∀ i ∈ T1, i ∈ vs1)
    (hr1 : HR K ρ1 h1 H1) (sr1 : SR K ρ1 H1 σd σ) (it : ItAt K ρ1 H1 items G J) (hD0 : ρ1[n]? = some Dp) (w1 : lcH g1 tt1 te G n (wipeD σd vs1) items h1 Qh)
    (fin : ∀ ρ2 h2 H, Ext ρ1 H1 ρ2 H → HR K ρ2 h2 H → ρ2[n]? = some Dp → Qh h2 → R H) :
    ∃ Wv : Nat → Nat → Hp → Prop, (∃ m, Wv 0 m H1) ∧ ∀ i m H, Wv i m H → (J.stop i H ∧ R H) ∨ (J.go i H ∧ ∃ Nx : Hp → Prop, (∀ H', Nx H' → ∃ m', m' < m ∧ Wv (i + 1) m' H') ∧
      ∀ x H', J.yld i H x H' → lG K W0 T1 g1 x (wipe σ vs1) H' fun σ2 H2 => wipe σ2 vs1 = wipe σ vs1 ∧ lT K W0 tt1 σ2 H2 fun b H3 => if b = true then lE K W0 te σ2 H3 fun y H4 => ∃ acc, H4 Dp = some (.lst acc) ∧ acc.length < sizeLine ∧ Nx (upd H4 Dp (.lst (acc ++ [y]))) else Nx H3) := by
  refine ⟨fun i m H => m = items.length - i ∧ i ≤ items.length ∧ ∃ ρ2 h2, Ext ρ1 H1 ρ2 H ∧ HR K ρ2 h2 H ∧ ρ2[n]? = some Dp ∧ lcH g1 tt1 te G n (wipeD σd vs1) (items.drop i) h2 Qh, ⟨items.length, rfl, Nat.zero_le _, _, _, .refl, hr1, hD0, w1⟩, ?_⟩
  rintro i m H ⟨rfl, hi, ρ2, h2, e12, hr2, hD, w2⟩
  obtain ⟨itg, its⟩ := it ρ2 h2 H i e12 hr2 (lcH_G w2)
  by_cases hlt : i < items.length
  · refine .inr ?_
    obtain ⟨go, yl⟩ := itg _ (List.getElem?_eq_getElem hlt)
    rw [List.drop_eq_getElem_cons hlt] at w2
    have w2' := w2.2
    refine ⟨go, fun H' => ∃ ρ3 h3, Ext ρ1 H1 ρ3 H' ∧ HR K ρ3 h3 H' ∧ ρ3[n]? = some Dp ∧ lcH g1 tt1 te G n (wipeD σd vs1) (items.drop (i + 1)) h3 Qh, fun H' z => ⟨items.length - (i + 1), by omega, rfl, hlt, z⟩, fun x H' y => ?_⟩
    obtain ⟨ey, hry, dvy⟩ := yl x H' y
    have e1y := e12.trans ey
    refine ⟨ρ2, _, h2, X0, _, _, hry, (sr1.ext e1y).wipe vs1, dvy, w2', fun _ _ _ _ _ _ _ _ _ _ z => z.elim, fun ρ3 σd3 h3 σ3 H3 e3 hr3 sr3 on w3 => ⟨wipe_only on hT, ?_⟩⟩
    refine lT.go hr3 sr3 w3 (fun _ _ _ _ _ _ _ _ _ _ z => z.elim) fun ρ4 b h4 H4 e4 hr4 sr4 kx4 q4 => ?_
    have e14 := (e1y.trans e3).trans e4
    have hD4 : ρ4[n]? = some Dp := (ey.trans (e3.trans e4)).get hD
    cases b with
    | true =>
      refine iteT (lE.go hr4 sr4 (q4.1 rfl) kx4 fun ρ5 d5 h5 v5 H5 e5 hr5 sr5 kx5 dv5 q5 => ?_)
      obtain ⟨acc, ha, hz, q5⟩ := q5
      have hD5 : ρ5[n]? = some Dp := e5.get hD4
      obtain ⟨vacc, hH, dacc⟩ := hr5.at_ _ _ _ ha hD5
      refine ⟨vacc, hH, by rw [dacc.length]; exact hz, ?_⟩
      obtain ⟨a1, a2⟩ := write_lst hr5 hD5 (dacc.append (.one dv5))
      exact ⟨ρ5, _, (e14.trans e5).trans a2, a1, hD5, q5⟩
    | false => exact iteF ⟨ρ4, h4, e14, hr4, hD4, q4.2 rfl⟩
  · refine .inl ⟨its (Nat.le_of_not_lt hlt), ?_⟩
    rw [List.drop_eq_nil_of_le (Nat.le_of_not_lt hlt)] at w2
    exact fin ρ2 h2 H e12 hr2 hD w2.2
theorem lc2_any {K : PySem.W.Frag} {W : WX} {T T1 vs vs1 : List Nat} {ti ti1 : DI} {g g1 : DG} {tt tt1 : DT} {te : DE} {σ : St} {H : Hp} {Q : VK} (hT : ∀ i ∈ T, i ∈ vs) (hT1 : ∀ i ∈ T1, i ∈ vs1) (w : lE K W (dLc2 ti g tt ti1 g1 tt1 te vs vs1) σ H Q) :
    tLc2 (lI K W ti) (lG K W0 T g) (lT K W0 tt) (lI K W0 ti1) (lG K W0 T1 g1) (lT K W0 tt1) (lE K W0 te) vs vs1 σ H Q := by
  obtain ⟨ρ, σd, h, Xd, Qd, hr, sr, w, kx, k⟩ := w
  refine lI.go hr sr w kx fun ρ1 items G h1 J H1 e1 hr1 sr1 kx1 it w1 => fun Dp nD => ?_
  obtain ⟨p1, p2⟩ := push_lst (p := Dp) hr1 nD (ds := []) (vs := []) rfl
  have e1p : Ext ρ1 H1 (ρ1 ++ [Dp]) (upd H1 Dp (.lst [])) := .push nD
  refine ⟨fun i m H => m = items.length - i ∧ i ≤ items.length ∧ ∃ ρ2 h2, Ext ρ1 H1 ρ2 H ∧ HR K ρ2 h2 H ∧ ρ2[h1.length]? = some Dp ∧ lcH2 g tt ti1 g1 tt1 te G h1.length vs1 (wipeD σd vs) (items.drop i) h2 _, ⟨items.length, rfl, Nat.zero_le _, _, _, e1p, p1, ?_, w1⟩, ?_⟩
  · obtain ⟨a, ea, q⟩ := p2
    cases ea
    exact q
  rintro i m H ⟨rfl, hi, ρ2, h2, e12, hr2, hD, w2⟩
  obtain ⟨itg, its⟩ := it ρ2 h2 H i e12 hr2 (lcH2_G w2)
  by_cases hlt : i < items.length
  · refine .inr ?_
    obtain ⟨go, yl⟩ := itg _ (List.getElem?_eq_getElem hlt)
    rw [List.drop_eq_getElem_cons hlt] at w2
    have w2' := w2.2
    refine ⟨go, fun H' => ∃ ρ3 h3, Ext ρ1 H1 ρ3 H' ∧ HR K ρ3 h3 H' ∧ ρ3[h1.length]? = some Dp ∧ lcH2 g tt ti1 g1 tt1 te G h1.length vs1 (wipeD σd vs) (items.drop (i + 1)) h3 _, fun H' n => ⟨items.length - (i + 1), by omega, rfl, hlt, n⟩, fun x H' y => ?_⟩
    obtain ⟨ey, hry, dvy⟩ := yl x H' y
    have e1y := e12.trans ey
    refine ⟨ρ2, _, h2, X0, _, _, hry, (sr1.ext e1y).wipe vs, dvy, w2', fun _ _ _ _ _ _ _ _ _ _ z => z.elim, fun ρ3 σd3 h3 σ3 H3 e3 hr3 sr3 on w3 => ⟨wipe_only on hT, ?_⟩⟩
    refine lT.go hr3 sr3 w3 (fun _ _ _ _ _ _ _ _ _ _ z => z.elim) fun ρ4 b h4 H4 e4 hr4 sr4 kx4 q4 => ?_
    have e14 := (e1y.trans e3).trans e4
    have hD4 : ρ4[h1.length]? = some Dp := (ey.trans (e3.trans e4)).get hD
    cases b with
    | true =>
      refine iteT (lI.go hr4 sr4 (q4.1 rfl) kx4 fun ρ5 items1 G1 h5 J1 H5 e5 hr5 sr5 kx5 it5 q5 => ?_)
      have hD5 : ρ5[h1.length]? = some Dp := e5.get hD4
      exact lc_inner hT1 hr5 sr5 it5 hD5 q5 fun ρ6 h6 H6 e6 hr6 hD6 q6 => ⟨ρ6, h6, (e14.trans e5).trans e6, hr6, hD6, q6⟩
    | false => exact iteF ⟨ρ4, h4, e14, hr4, hD4, q4.2 rfl⟩
  · refine .inl ⟨its (Nat.le_of_not_lt hlt), ?_⟩
    rw [List.drop_eq_nil_of_le (Nat.le_of_not_lt hlt)] at w2
    obtain ⟨acc, rfl, hb, q⟩ := w2.2
    obtain ⟨a1, a2, a3⟩ := lc_freeze hr1 e12 hr2 hD hb
    exact k ρ1 _ h1 _ H (e1.trans a1) a2 a3 q
section
variable {X : Cx} {W : WX} {elt tg iter tg1 iter1 : Expr} {ifs ifs1 : List Expr} {scope : Scope} {own : List (Str × Nat)} {T T1 vs1 : List Nat} {ti ti1 : DI} {g g1 : DG} {tt tt1 : DT} {te : DE} {pos : Pos}
theorem se_lc2 (hc : X.calm = true) (hN : X.N.Nodup) (hi : SI X W tg iter ti) (ok : BlkOk X.N X.env.scope scope own) (hv : ∀ i ∈ vs1, i ∈ own.map (·.2))
    (hg : ∀ (s : Shared) (H : Hp) (C : Addr) (cl : List (Str × Addr)) (fp : List Addr), SG (X.blk s H scope (compEnvC scope cl C X.env) fp) W0 T tg g) (ht : ∀ (s : Shared) (H : Hp) (C : Addr) (cl : List (Str × Addr)) (fp : List Addr), SPT (X.blk s H scope (compEnvC scope cl C X.env) fp) W0 ifs tt)
    (hi1 : ∀ (s : Shared) (H : Hp) (C : Addr) (cl : List (Str × Addr)) (fp : List Addr), SI (X.blk s H scope (compEnvC scope cl C X.env) fp) W0 tg1 iter1 ti1)
    (hg1 : ∀ (s : Shared) (H : Hp) (C : Addr) (cl : List (Str × Addr)) (fp : List Addr), SG (X.blk s H scope (compEnvC scope cl C X.env) fp) W0 T1 tg1 g1) (ht1 : ∀ (s : Shared) (H : Hp) (C : Addr) (cl : List (Str × Addr)) (fp : List Addr), SPT (X.blk s H scope (compEnvC scope cl C X.env) fp) W0 ifs1 tt1)
    (he : ∀ (s : Shared) (H : Hp) (C : Addr) (cl : List (Str × Addr)) (fp : List Addr), SE (X.blk s H scope (compEnvC scope cl C X.env) fp) W0 elt te) (hT : ∀ i ∈ T, i ∈ own.map (·.2) := by decide) (hT1 : ∀ i ∈ T1, i ∈ vs1 := by decide) (hs : ∀ x, foldedSetIterable iter X.env x = pure x := by intro _; rfl) (hs1 : ∀ (env : Env) (x : Value), foldedSetIterable iter1 env x = pure x := by intro _ _; rfl) :
    SE X W (.ListComp elt [⟨tg, iter, ifs, 0⟩, ⟨tg1, iter1, ifs1, 0⟩] scope pos) (dLc2 ti g tt ti1 g1 tt1 te (own.map (·.2)) vs1) := PE.imp (pe_lc2 hc hN hi ok hv hg ht hi1 hg1 ht1 he hs hs1) fun σ H Q w => lc2_any hT hT1 w
end
end L2.MW

namespace L2.MW.K34
open PySem PySem.Spec PyProof.Rows L2 L2.MW
/-! ### words by their numbers -/
/-- the letters of n, the highest first -/
def bitsN (L n : Nat) : List Bool := (List.range L).map fun k => n.testBit (L - 1 - k)
def wsD (L : Nat) (row : List Nat) : List D := row.map fun n => wrd (bitsN L n)
structure RowN (L : Nat) (row : List Nat) : Prop where
  up : row.Pairwise (· < ·)
  lt : ∀ x ∈ row, x < 2 ^ L
structure BagOk (L : Nat) (row : List Nat) : Prop where
  le : L ≤ 39
  rn : RowN L row
  ne : row ≠ []
  few : row.length ≤ 40
def boD (L : Nat) (row : List Nat) : List (Str × D) := [("length", .int L), ("words", .tup (wsD L row))]
def boO (L : Nat) (row : List Nat) : D := .obj "Words" (boD L row)
def mj (a b c : Nat) : Nat := (a &&& b) ||| ((a ||| b) &&& c)
def mjAt (ns : List Nat) (i j k : Nat) : Nat := mj (ns.getD i 0) (ns.getD j 0) (ns.getD k 0)
def Lex (a b c i j k : Nat) : Prop := a < i ∨ (a = i ∧ (b < j ∨ (b = j ∧ c < k)))
def wdAt (L : Nat) (row : List Nat) (i : Nat) : D := wrd (bitsN L (row.getD i 0))
/-! ### the closure, step by step -/
def addN (ns : List Nat) (m : Nat) : List Nat := if m ∈ ns then ns else ns ++ [m]
def cands (ns : List Nat) (k : Nat) : List Nat := (List.range k).flatMap fun j => (List.range j).map fun i => mjAt ns i j k
def stepC (ns : List Nat) (k : Nat) : List Nat := (cands ns k).foldl addN ns
def cloF (row : List Nat) : Nat → List Nat
  | 0 => row
  | k + 1 => if k < (cloF row k).length ∧ (cloF row k).length ≤ 40 then stepC (cloF row k) k else cloF row k
/-- due is the closure, sorted -/
structure Due (L : Nat) (row due : List Nat) : Prop where
  rn : RowN L due
  pm : due.Perm (cloF row 41)
/-! ### promises -/
def ct_is_integer : Ct := fun ds h X Q => ∃ i : Int, ds = [.int i] ∧ Q (.bl true) h
def ct_is_between : Ct := fun ds h X Q => ∃ i lo hi : Int, ds = [.int i, .int lo, .int hi] ∧ Q (.bl (decide (lo ≤ i) && decide (i ≤ hi))) h
def ct_is_bit : Ct := fun ds h X Q => ∃ b : Bool, ds = [bitD b] ∧ Q (.bl true) h
def ct_is_word : Ct := fun ds h X Q => ∃ (w : List Bool) (n : Nat), ds = [wrd w, .int n] ∧ w.length = n ∧ n ≤ 39 ∧ Q (.bl true) h
def ct_Words_init : Ct := fun ds h X Q => ∃ (i L : Nat) (row : List Nat) (d : D), ds = [.ref i, .int L, d] ∧ (d = .lst (wsD L row) ∨ d = .tup (wsD L row)) ∧ h[i]? = some (.ins "Words" []) ∧ BagOk L row ∧ Q .non (h.set i (.ins "Words" (boD L row)))
def ct_number_of_word : Ct := fun ds h X Q => ∃ L n : Nat, ds = [wrd (bitsN L n)] ∧ L ≤ 39 ∧ n < 2 ^ L ∧ Q (.int n) h
def ct__law_cell : Ct := ct_law_cell
def ct__law_row : Ct := ct_law_row
def ct__law_word : Ct := fun ds h X Q => ∃ n L : Nat, ds = [.int n, .int L] ∧ L ≤ 39 ∧ Q (wrd (bitsN L n)) h
def ct__law_drawn : Ct := fun ds h X Q => ∃ (ns : List Int) (a m L : Nat), ds = [.fz (ns.map D.int), .int a, .int m, .int L] ∧ ns.length ≤ 63 ∧ a ≤ 1000 ∧ m ≤ 100 ∧ L ≤ 40 ∧ ∀ row, RowN L row → row.length ≤ m → (0 < m → row ≠ []) → Q (.lst (nats row)) h
def ct__law_majority : Ct := fun ds h X Q => ∃ a b c : Nat, ds = [.int a, .int b, .int c] ∧ Q (.int (mj a b c)) h
def ct_word_of_number : Ct := fun ds h X Q => ∃ n L : Nat, ds = [.int n, .int L] ∧ L ≤ 39 ∧ Q (wrd (bitsN L n)) h
def ct_numbers_of : Ct := fun ds h X Q => ∃ (L : Nat) (row : List Nat), ds = [boO L row] ∧ BagOk L row ∧ Q (.ref h.length) (h ++ [.lst (nats row)])
def ct_majorities_with : Ct := fun ds h X Q => ∃ (i k : Nat) (ns : List Nat), ds = [.ref i, .int k] ∧ h[i]? = some (.lst (nats ns)) ∧ k < ns.length ∧ k ≤ 40 ∧ Q (.lst (nats (cands ns k))) h
def ct_closed : Ct := fun ds h X Q => ∃ (L : Nat) (row : List Nat), ds = [boO L row] ∧ BagOk L row ∧ ((cloF row 41).length ≤ 40 → ∀ due, Due L row due → Q (boO L due) h) ∧ (40 < (cloF row 41).length → X ⟨"TooLarge", [("what", .str "words")]⟩ h)
def ct__law_closure : Ct := fun ds h X Q => ∃ (L : Nat) (row : List Nat), ds = [.lst (nats row), .int 40] ∧ BagOk L row ∧ ∀ due, Due L row due → Q (.lst (nats due)) h
def ct__law_axes : Ct := fun ds h X Q => ∃ p : List Nat, ds = [.lst (nats p)] ∧ 4 ≤ p.length ∧ ∀ L row, L ≤ 39 → row.Nodup → (∀ x ∈ row, x < 2 ^ L) → row ≠ [] → row.length ≤ 40 → Q (.lst [.int (L : Nat), .lst (nats row)]) h
def ct__law_mixed : Ct := fun ds h X Q => ∃ (L : Nat) (row keys : List Nat), ds = [.int L, .lst (nats row), .lst (nats keys)] ∧ L ≤ 39 ∧ row.Nodup ∧ (∀ x ∈ row, x < 2 ^ L) ∧ row ≠ [] ∧ row.length ≤ 40 ∧ keys.length = 44 ∧ (∀ x ∈ keys, x < 1009) ∧
  ∀ L' row', BagOk L' row' → Q (.ref h.length) (h ++ [.lst [.int (L' : Nat), .lst (nats row')]])
def ct__law_bag : Ct := fun ds h X Q => ∃ ns : List Int, ds = [.fz (ns.map D.int)] ∧ ns.length ≤ 63 ∧ ∀ L row, BagOk L row → Q (.lst [.int (L : Nat), .lst (nats row)]) h
def ct__law_told : Ct := fun ds h X Q => ∃ (L : Nat) (row : List Nat), ds = [boO L row] ∧ BagOk L row ∧ ((cloF row 41).length ≤ 40 → ∀ due, Due L row due → Q (.lst [.int 0, boO L due]) h) ∧ (40 < (cloF row 41).length → Q (.lst [.int 1]) h)
def ct__law_plain : Ct := fun ds h X Q => ∃ (L : Nat) (row : List Nat), ds = [boO L row, .int L, .lst (nats row)] ∧ BagOk L row ∧ Q (.bl true) h
def ct__law_right : Ct := fun ds h X Q => ∃ (L : Nat) (row due : List Nat), ds = [boO L row, .int L, .lst (nats due)] ∧ BagOk L row ∧ Due L row due ∧ Q (.bl true) h
def ct__law_asked : Ct := fun ds h X Q => ∃ ns : List Int, ds = [.fz (ns.map D.int)] ∧ ns.length ≤ 63 ∧ Q (.bl true) h
def ct_law : Ct := ct__law_asked
def top (i : Nat) : Stmt := PySem.Challenge.pw_middlewebs_k34_whole_closure.main.body.getD i (.Pass ⟨0, 0, 0, 0⟩)
def mem (s : Stmt) (i : Nat) : Stmt := match s with
  | .ClassDef _ _ _ b .. => b.getD i (.Pass ⟨0, 0, 0, 0⟩)
  | s => s
abbrev fc_length : List String := ["Words"]
abbrev fc_words : List String := ["Words"]
abbrev xf_TooLarge : List Str := ["what"]
abbrev xtb : List (String × D × Bool) := [("TooLarge", .cls "TooLarge", true)]
abbrev xkt : List (String × D × Bool) := [("TooLarge", .cls "Undefined", false), ("TooLarge", .ty "ValueError", true), ("TooLarge", .cls "MiddleError", true)]
abbrev kcs : List String := ["Words"]
structure Gm (K : PySem.W.Frag) (mg : Str → Option Value) : Prop where
  m_ValueError : mg "ValueError" = none
  m_all : mg "all" = none
  m_bool : mg "bool" = none
  m_enumerate : mg "enumerate" = none
  m_int : mg "int" = none
  m_isinstance : mg "isinstance" = none
  m_len : mg "len" = none
  m_list : mg "list" = none
  m_max : mg "max" = none
  m_min : mg "min" = none
  m_range : mg "range" = none
  m_set : mg "set" = none
  m_sorted : mg "sorted" = none
  m_str : mg "str" = none
  m_tuple : mg "tuple" = none
  i_MOST_LETTERS : ∃ t, mg "MOST_LETTERS" = some (.int 39 t)
  i_MOST_WORDS : ∃ t, mg "MOST_WORDS" = some (.int 40 t)
  f_length : FldOk K fc_length "length"
  f_words : FldOk K fc_words "words"
  exm : ExmF K xtb
  kitE : KitE K xkt
  n_what : XN K (clss xtb) "what"
  kit : KitF K kcs
  g_Words : mg (Str.ofString "Words") = some (.ref (He.ga K (Str.ofString "Words")))
  g_TooLarge : mg (Str.ofString "TooLarge") = some (.ref (He.ga K (Str.ofString "TooLarge")))
  g_Undefined : mg (Str.ofString "Undefined") = some (.ref (He.ga K (Str.ofString "Undefined")))
  g_MiddleError : mg (Str.ofString "MiddleError") = some (.ref (He.ga K (Str.ofString "MiddleError")))
abbrev s_is_integer : Stmt := top 6
abbrev N_is_integer : List Str := ["value"]
abbrev P_is_integer : List Str := ["value"]
theorem sc_is_integer : FnScope N_is_integer P_is_integer (defScope s_is_integer) := ⟨rfl, rfl, rfl, by decide +kernel, rfl, by decide +kernel, by decide +kernel⟩
def tb_is_integer : DS :=
 (sRet (dAndV (dCB (nIsi kcs) (aCons (dVar 0) (aCons (dC (.ty "int")) aNil))) (dNotV (dCB (nIsi kcs) (aCons (dVar 0) (aCons (dC (.ty "bool")) aNil))))))
theorem bd_is_integer {P : Program} {w : World} {K : PySem.W.Frag} {mg : Str → Option Value} {base : Heap} (G : Gm K mg)  : BodyC P w K mg base N_is_integer "is_integer" (defScope s_is_integer) (defBody s_is_integer) 0 tb_is_integer :=
 fun f cd A outer s H E hr tk hp =>
 (ss_one (s1_ret (se_and (se_isi G.kit G.m_isinstance (sa_cons (se_var 0) (sa_cons (se_ty rfl G.m_int (by decide +kernel)) sa_nil))) (se_one (se_not (se_isi G.kit G.m_isinstance (sa_cons (se_var 0) (sa_cons (se_ty rfl G.m_bool (by decide +kernel)) sa_nil))))))))
abbrev s_is_between : Stmt := top 7
abbrev N_is_between : List Str := ["value", "low", "high"]
abbrev P_is_between : List Str := ["value", "low", "high"]
theorem sc_is_between : FnScope N_is_between P_is_between (defScope s_is_between) := ⟨rfl, rfl, rfl, by decide +kernel, rfl, by decide +kernel, by decide +kernel⟩
def tb_is_between : DS :=
 (sRet (dAndV (dCall ct_is_integer 1 (aCons (dVar 0) aNil)) (dChn oLe oLe (dVar 1) (dVar 0) (dVar 2))))
theorem bd_is_between {P : Program} {w : World} {K : PySem.W.Frag} {mg : Str → Option Value} {base : Heap} (G : Gm K mg) (F_is_integer : FnC P w K mg base 1 "is_integer" 1 ct_is_integer) : BodyC P w K mg base N_is_between "is_between" (defScope s_is_between) (defBody s_is_between) 1 tb_is_between :=
 fun f cd A outer s H E hr tk hp =>
 (ss_one (s1_ret (se_and (se_call F_is_integer tk (hr.mono (by decide)) (sa_cons (se_var 0) sa_nil)) (se_one (se_chn op_le L_CI op_le L_CI (se_var 1) (se_var 0) (se_var 2))))))
abbrev s_is_bit : Stmt := top 8
abbrev N_is_bit : List Str := ["value"]
abbrev P_is_bit : List Str := ["value"]
theorem sc_is_bit : FnScope N_is_bit P_is_bit (defScope s_is_bit) := ⟨rfl, rfl, rfl, by decide +kernel, rfl, by decide +kernel, by decide +kernel⟩
def tb_is_bit : DS :=
 (sRet (dCall ct_is_between 3 (aCons (dVar 0) (aCons (dC (.int 0)) (aCons (dC (.int 1)) aNil)))))
theorem bd_is_bit {P : Program} {w : World} {K : PySem.W.Frag} {mg : Str → Option Value} {base : Heap} (G : Gm K mg) (F_is_between : FnC P w K mg base 2 "is_between" 3 ct_is_between) : BodyC P w K mg base N_is_bit "is_bit" (defScope s_is_bit) (defBody s_is_bit) 2 tb_is_bit :=
 fun f cd A outer s H E hr tk hp =>
 (ss_one (s1_ret (se_call F_is_between tk (hr.mono (by decide)) (sa_cons (se_var 0) (sa_cons se_int (sa_cons se_int sa_nil))))))
abbrev s_is_word : Stmt := top 9
abbrev N_is_word : List Str := ["value", "length", "letter"]
abbrev P_is_word : List Str := ["value", "length"]
theorem sc_is_word : FnScope N_is_word P_is_word (defScope s_is_word) := ⟨rfl, rfl, rfl, by decide +kernel, rfl, by decide +kernel, by decide +kernel⟩
def tb_is_word : DS :=
 (sRet (dAndV (dCB (nIsi kcs) (aCons (dVar 0) (aCons (dC (.ty "tuple")) aNil))) (dAndV (dOp dEq (dCB nLen (aCons (dVar 0) aNil)) (dVar 1)) (dCB nAll (aCons (dLc (iT (dVar 0)) (tgN 2) dYes (dCall ct_is_bit 1 (aCons (dVar 2) aNil)) [2]) aNil)))))
theorem bd_is_word {P : Program} {w : World} {K : PySem.W.Frag} {mg : Str → Option Value} {base : Heap} (G : Gm K mg) (F_is_bit : FnC P w K mg base 3 "is_bit" 1 ct_is_bit) : BodyC P w K mg base N_is_word "is_word" (defScope s_is_word) (defBody s_is_word) 3 tb_is_word :=
 fun f cd A outer s H E hr tk hp =>
 (ss_one (s1_ret (se_and (se_isi G.kit G.m_isinstance (sa_cons (se_var 0) (sa_cons (se_ty rfl G.m_tuple (by decide +kernel)) sa_nil))) (se_and (se_eq (uu hr) (se_len G.m_len (sa_cons (se_var 0) sa_nil)) (se_var 1)) (se_one (se_all rfl G.m_all (sa_cons (se_lc (own := [("letter", 2)]) rfl sc_is_word.nd (si_tup (se_var 0)) (by show BlkOk N_is_word (defScope s_is_word) _ [("letter", 2)]; exact ⟨rfl, by decide +kernel, by decide +kernel, by decide +kernel, by decide +kernel⟩) (fun _ _ _ _ _ => (sg_name sc_is_word.nd)) (fun _ _ _ _ _ => sp_nil) (fun _ _ _ _ _ => (se_call F_is_bit takes00 (hr.mono (by decide)) (sa_cons (se_var 2) sa_nil)))) sa_nil)))))))
abbrev s_Words_init : Stmt := mem (top 13) 0
abbrev N_Words_init : List Str := ["self", "length", "words", "place", "word"]
abbrev P_Words_init : List Str := ["self", "length", "words"]
theorem sc_Words_init : FnScope N_Words_init P_Words_init (defScope s_Words_init) := ⟨rfl, rfl, rfl, by decide +kernel, rfl, by decide +kernel, by decide +kernel⟩
def tb_Words_init : DS :=
 (sSeq (sIf (dNot (dTru (dCall ct_is_between 3 (aCons (dVar 1) (aCons (dC (.int 0)) (aCons (dC (.int 39)) aNil))))))
 sNever
 sNil)
 (sSeq (sIf (dOr (dNot (dTru (dCB (nIsi kcs) (aCons (dVar 2) (aCons (dTup (aCons (dC (.ty "list")) (aCons (dC (.ty "tuple")) aNil))) aNil))))) (dTst (dOp dEq (dCB nLen (aCons (dVar 2) aNil)) (dC (.int 0)))))
 sNever
 sNil)
 (sSeq (sFor (iEnS (aCons (dVar 2) aNil)) (tgTup 2 (tgsCons (tgN 3) (tgsCons (tgN 4) tgsNil)))
 (sSeq (sIf (dOr (dTst (dOp dEq (dVar 3) (dC (.int 40)))) (dNot (dTru (dCall ct_is_word 2 (aCons (dVar 4) (aCons (dVar 1) aNil))))))
 sNever
 sNil)
 (sIf (dAnd (dTst (dOp oGt (dVar 3) (dC (.int 0)))) (dTst (dOp dLeD (dVar 4) (dOp dIx (dVar 2) (dOp oSub (dVar 3) (dC (.int 1)))))))
 sNever
 sNil)))
 (sSeq (sFldD fc_length "length" (dVar 0) (dVar 1))
 (sFldD fc_words "words" (dVar 0) (dCB nTup (aCons (dVar 2) aNil)))))))
theorem bd_Words_init {P : Program} {w : World} {K : PySem.W.Frag} {mg : Str → Option Value} {base : Heap} (G : Gm K mg) (F_is_between : FnC P w K mg base 2 "is_between" 3 ct_is_between) (F_is_word : FnC P w K mg base 4 "is_word" 2 ct_is_word) : BodyC P w K mg base N_Words_init "Words.__init__" (defScope s_Words_init) (defBody s_Words_init) 4 tb_Words_init :=
 fun f cd A outer s H E hr tk hp =>
 (ss_cons (s1_if (st_not (st_tru (se_call F_is_between tk (hr.mono (by decide)) (sa_cons (se_var 1) (sa_cons se_int (sa_cons (se_gint rfl G.i_MOST_LETTERS) sa_nil))))))
 ss_never
 ss_nil)
 (ss_cons (s1_if (st_w (sw_or (st_not (st_tru (se_isi G.kit G.m_isinstance (sa_cons (se_var 2) (sa_cons (se_tup (sa_cons (se_ty rfl G.m_list (by decide +kernel)) (sa_cons (se_ty rfl G.m_tuple (by decide +kernel)) sa_nil))) sa_nil))))) (sw_or1 (st_eq (uu hr) (se_len G.m_len (sa_cons (se_var 2) sa_nil)) se_int))))
 ss_never
 ss_nil)
 (ss_cons (s1_for hp rfl (si_enAny G.m_enumerate (sa_cons (se_var 2) sa_nil)) (sg_tup rfl (sgs_cons (sg_name sc_Words_init.nd) (sgs_cons (sg_name sc_Words_init.nd) (sgs_nil (T := [])))))
 (ss_cons (s1_if (st_w (sw_or (st_eq (uu hr) (se_var 3) (se_gint rfl G.i_MOST_WORDS)) (sw_or1 (st_not (st_tru (se_call F_is_word tk (hr.mono (by decide)) (sa_cons (se_var 4) (sa_cons (se_var 1) sa_nil))))))))
 ss_never
 ss_nil)
 (ss_one (s1_if (st_w (sw_and (st_gt (se_var 3) se_int) (sw_and1 (st_leD (uu hr) (se_var 4) (se_sub (se_var 2) (se_sub2 (se_var 3) se_int))))))
 ss_never
 ss_nil))))
 (ss_cons (s1_fld (cs := fc_length) G.f_length (se_var 0) (se_var 1))
 (ss_one (s1_fld (cs := fc_words) G.f_words (se_var 0) (se_tuple G.m_tuple (sa_cons (se_var 2) sa_nil))))))))
abbrev s_number_of_word : Stmt := top 14
abbrev N_number_of_word : List Str := ["word", "number", "letter"]
abbrev P_number_of_word : List Str := ["word"]
theorem sc_number_of_word : FnScope N_number_of_word P_number_of_word (defScope s_number_of_word) := ⟨rfl, rfl, rfl, by decide +kernel, rfl, by decide +kernel, by decide +kernel⟩
def tb_number_of_word : DS :=
 (sSeq (sSet 1 (dC (.int 0)))
 (sSeq (sFor (iT (dVar 0)) (tgN 2)
 (sSet 1 (dOp dAdd (dOp dMul (dC (.int 2)) (dVar 1)) (dVar 2))))
 (sRet (dVar 1))))
theorem bd_number_of_word {P : Program} {w : World} {K : PySem.W.Frag} {mg : Str → Option Value} {base : Heap} (G : Gm K mg)  : BodyC P w K mg base N_number_of_word "number_of_word" (defScope s_number_of_word) (defBody s_number_of_word) 0 tb_number_of_word :=
 fun f cd A outer s H E hr tk hp =>
 (ss_cons (s1_set 1 sc_number_of_word.nd se_int)
 (ss_cons (s1_for hp rfl (si_tup (se_var 0)) (sg_name sc_number_of_word.nd)
 (ss_one (s1_set 1 sc_number_of_word.nd (se_add (se_mul se_int (se_var 1)) (se_var 2)))))
 (ss_one (s1_ret (se_var 1)))))
abbrev s_word_of_number : Stmt := top 15
abbrev N_word_of_number : List Str := ["number", "length", "place"]
abbrev P_word_of_number : List Str := ["number", "length"]
theorem sc_word_of_number : FnScope N_word_of_number P_word_of_number (defScope s_word_of_number) := ⟨rfl, rfl, rfl, by decide +kernel, rfl, by decide +kernel, by decide +kernel⟩
def tb_word_of_number : DS :=
 (sRet (dCB nTup (aCons (dLc (iR1 (aCons (dVar 1) aNil)) (tgN 2) dYes (dOp oAnd (dOp oShr (dVar 0) (dOp oSub (dOp oSub (dVar 1) (dC (.int 1))) (dVar 2))) (dC (.int 1))) [2]) aNil)))
theorem bd_word_of_number {P : Program} {w : World} {K : PySem.W.Frag} {mg : Str → Option Value} {base : Heap} (G : Gm K mg)  : BodyC P w K mg base N_word_of_number "word_of_number" (defScope s_word_of_number) (defBody s_word_of_number) 0 tb_word_of_number :=
 fun f cd A outer s H E hr tk hp =>
 (ss_one (s1_ret (se_tuple G.m_tuple (sa_cons (se_lc (own := [("place", 2)]) rfl sc_word_of_number.nd (si_range1 G.m_range (sa_cons (se_var 1) sa_nil)) (by show BlkOk N_word_of_number (defScope s_word_of_number) _ [("place", 2)]; exact ⟨rfl, by decide +kernel, by decide +kernel, by decide +kernel, by decide +kernel⟩) (fun _ _ _ _ _ => (sg_name sc_word_of_number.nd)) (fun _ _ _ _ _ => sp_nil) (fun _ _ _ _ _ => (se_band (se_shr (se_var 0) (se_sub2 (se_sub2 (se_var 1) se_int) (se_var 2))) se_int))) sa_nil))))
abbrev s_numbers_of : Stmt := top 16
abbrev N_numbers_of : List Str := ["words", "word"]
abbrev P_numbers_of : List Str := ["words"]
theorem sc_numbers_of : FnScope N_numbers_of P_numbers_of (defScope s_numbers_of) := ⟨rfl, rfl, rfl, by decide +kernel, rfl, by decide +kernel, by decide +kernel⟩
def tb_numbers_of : DS :=
 (sRet (dLcH (iT (dFldC fc_words "words" (dVar 0))) (tgN 1) dYes (dCall ct_number_of_word 1 (aCons (dVar 1) aNil)) [1]))
theorem bd_numbers_of {P : Program} {w : World} {K : PySem.W.Frag} {mg : Str → Option Value} {base : Heap} (G : Gm K mg) (F_number_of_word : FnC P w K mg base 1 "number_of_word" 1 ct_number_of_word) : BodyC P w K mg base N_numbers_of "numbers_of" (defScope s_numbers_of) (defBody s_numbers_of) 1 tb_numbers_of :=
 fun f cd A outer s H E hr tk hp =>
 (ss_one (s1_ret (se_lcH (own := [("word", 1)]) rfl sc_numbers_of.nd (si_tup (se_fld (cs := fc_words) G.f_words (se_var 0))) (by show BlkOk N_numbers_of (defScope s_numbers_of) _ [("word", 1)]; exact ⟨rfl, by decide +kernel, by decide +kernel, by decide +kernel, by decide +kernel⟩) (fun _ _ _ _ _ => (sg_name sc_numbers_of.nd)) (fun _ _ _ _ _ => sp_nil) (fun _ _ _ _ _ => (se_call F_number_of_word takes00 (hr.mono (by decide)) (sa_cons (se_var 1) sa_nil))))))
abbrev s_majorities_with : Stmt := top 17
abbrev N_majorities_with : List Str := ["numbers", "at", "number", "j", "i"]
abbrev P_majorities_with : List Str := ["numbers", "at"]
theorem sc_majorities_with : FnScope N_majorities_with P_majorities_with (defScope s_majorities_with) := ⟨rfl, rfl, rfl, by decide +kernel, rfl, by decide +kernel, by decide +kernel⟩
def tb_majorities_with : DS :=
 (sSeq (sSet 2 (dOp dIx (dVar 0) (dVar 1)))
 (sRet (dLc2 (iR1 (aCons (dVar 1) aNil)) (tgN 3) dYes (iR1 (aCons (dVar 3) aNil)) (tgN 4) dYes (dOp oOr (dOp oAnd (dOp dIx (dVar 0) (dVar 4)) (dOp dIx (dVar 0) (dVar 3))) (dOp oAnd (dOp oOr (dOp dIx (dVar 0) (dVar 4)) (dOp dIx (dVar 0) (dVar 3))) (dVar 2))) [3, 4] [4])))
theorem bd_majorities_with {P : Program} {w : World} {K : PySem.W.Frag} {mg : Str → Option Value} {base : Heap} (G : Gm K mg)  : BodyC P w K mg base N_majorities_with "majorities_with" (defScope s_majorities_with) (defBody s_majorities_with) 0 tb_majorities_with :=
 fun f cd A outer s H E hr tk hp =>
 (ss_cons (s1_set 2 sc_majorities_with.nd (se_sub (se_var 0) (se_var 1)))
 (ss_one (s1_ret (se_lc2 (own := [("j", 3), ("i", 4)]) (vs1 := [4]) rfl sc_majorities_with.nd (si_range1 G.m_range (sa_cons (se_var 1) sa_nil)) (by show BlkOk N_majorities_with (defScope s_majorities_with) _ [("j", 3), ("i", 4)]; exact ⟨rfl, by decide +kernel, by decide +kernel, by decide +kernel, by decide +kernel⟩) (by decide) (fun _ _ _ _ _ => (sg_name sc_majorities_with.nd)) (fun _ _ _ _ _ => sp_nil) (fun _ _ _ _ _ => (si_range1 G.m_range (sa_cons (se_var 3) sa_nil))) (fun _ _ _ _ _ => (sg_name sc_majorities_with.nd)) (fun _ _ _ _ _ => sp_nil) (fun _ _ _ _ _ => (se_bor (se_band (se_sub (se_var 0) (se_var 4)) (se_sub (se_var 0) (se_var 3))) (se_band (se_bor (se_sub (se_var 0) (se_var 4)) (se_sub (se_var 0) (se_var 3))) (se_var 2))))))))
abbrev s_closed : Stmt := top 18
abbrev N_closed : List Str := ["words", "numbers", "known", "at", "candidates", "number"]
abbrev P_closed : List Str := ["words"]
theorem sc_closed : FnScope N_closed P_closed (defScope s_closed) := ⟨rfl, rfl, rfl, by decide +kernel, rfl, by decide +kernel, by decide +kernel⟩
def tb_closed : DS :=
 (sSeq (sSet 1 (dCall ct_numbers_of 1 (aCons (dVar 0) aNil)))
 (sSeq (sSet 2 (dCB nSetL (aCons (dVar 1) aNil)))
 (sSeq (sSet 3 (dC (.int 0)))
 (sSeq (sWhile (dTst (dOp oLt (dVar 3) (dCB nLen (aCons (dVar 1) aNil))))
 (sSeq (sSet 4 (dCall ct_majorities_with 2 (aCons (dVar 1) (aCons (dVar 3) aNil))))
 (sSeq (sFor (iS (dVar 4)) (tgN 5)
 (sIf (dTst (dOp (dInC true) (dVar 5) (dVar 2)))
 (sSeq (sExpr (dSAdd (dVar 2) (aCons (dVar 5) aNil)))
 (sExpr (dBM "list" mApp (dVar 1) (aCons (dVar 5) aNil))))
 sNil))
 (sSeq (sIf (dTst (dOp oGt (dCB nLen (aCons (dVar 1) aNil)) (dC (.int 40))))
 (sRaise "TooLarge" xf_TooLarge (aCons (dC (.str "words")) aNil))
 sNil)
 (sAug 3 (dC (.int 1)) dIadd)))))
 (sRet (dMake "Words" ct_Words_init 3 (aCons (dFldC fc_length "length" (dVar 0)) (aCons (dLc (iS (dCB nSrtI (aCons (dVar 1) aNil))) (tgN 5) dYes (dCall ct_word_of_number 2 (aCons (dVar 5) (aCons (dFldC fc_length "length" (dVar 0)) aNil))) [5]) aNil))))))))
theorem bd_closed {P : Program} {w : World} {K : PySem.W.Frag} {mg : Str → Option Value} {base : Heap} (G : Gm K mg) (M_Words : MkC P w K mg base 5 "Words" 3 ct_Words_init) (F_majorities_with : FnC P w K mg base 1 "majorities_with" 2 ct_majorities_with) (F_numbers_of : FnC P w K mg base 2 "numbers_of" 1 ct_numbers_of) (F_word_of_number : FnC P w K mg base 1 "word_of_number" 2 ct_word_of_number) (X_TooLarge : ExK P w K mg base "TooLarge" xf_TooLarge) : BodyC P w K mg base N_closed "closed" (defScope s_closed) (defBody s_closed) 6 tb_closed :=
 fun f cd A outer s H E hr tk hp =>
 (ss_cons (s1_set 1 sc_closed.nd (se_call F_numbers_of tk (hr.mono (by decide)) (sa_cons (se_var 0) sa_nil)))
 (ss_cons (s1_set 2 sc_closed.nd (se_setL rfl G.m_set (sa_cons (se_var 1) sa_nil)))
 (ss_cons (s1_set 3 sc_closed.nd se_int)
 (ss_cons (s1_while hp (st_lt (se_var 3) (se_len G.m_len (sa_cons (se_var 1) sa_nil)))
 (ss_cons (s1_set 4 sc_closed.nd (se_call F_majorities_with tk (hr.mono (by decide)) (sa_cons (se_var 1) (sa_cons (se_var 3) sa_nil))))
 (ss_cons (s1_for hp rfl (si_any (se_var 4)) (sg_name sc_closed.nd)
 (ss_one (s1_if (st_notInC (uu1 hr) (se_var 5) (se_var 2))
 (ss_cons (s1_expr (se_sadd (se_var 2) (sa_cons (se_var 5) sa_nil)))
 (ss_one (s1_expr (se_append (se_var 1) (sa_cons (se_var 5) sa_nil)))))
 ss_nil)))
 (ss_cons (s1_if (st_gt (se_len G.m_len (sa_cons (se_var 1) sa_nil)) (se_gint rfl G.i_MOST_WORDS))
 (ss_one (s1_raise X_TooLarge rfl tk (hr.mono (by decide)) (sa_cons se_str sa_nil)))
 ss_nil)
 (ss_one (s1_aadd 3 sc_closed.nd se_int))))))
 (ss_one (s1_ret (se_make M_Words tk (hr.mono (by decide)) (sa_cons (se_fld (cs := fc_length) G.f_length (se_var 0)) (sa_cons (se_lc (own := [("number", 5)]) rfl sc_closed.nd (si_any (se_sortI G.m_sorted (sa_cons (se_var 1) sa_nil))) (by show BlkOk N_closed (defScope s_closed) _ [("number", 5)]; exact ⟨rfl, by decide +kernel, by decide +kernel, by decide +kernel, by decide +kernel⟩) (fun _ _ _ _ _ => (sg_name sc_closed.nd)) (fun _ _ _ _ _ => sp_nil) (fun _ _ _ _ _ => (se_call F_word_of_number takes00 (hr.mono (by decide)) (sa_cons (se_var 5) (sa_cons (se_fld (cs := fc_length) G.f_length (se_var 0)) sa_nil))))) sa_nil)))))))))
abbrev s__law_cell : Stmt := top 20
abbrev N__law_cell : List Str := ["script", "k"]
abbrev P__law_cell : List Str := ["script", "k"]
theorem sc__law_cell : FnScope N__law_cell P__law_cell (defScope s__law_cell) := ⟨rfl, rfl, rfl, by decide +kernel, rfl, by decide +kernel, by decide +kernel⟩
def tb__law_cell : DS :=
 (sSeq (sIf (dTst (dOp oLt (dVar 1) (dCB nLen (aCons (dVar 0) aNil))))
 (sRet (dCB nInt (aCons (dOp dIx (dVar 0) (dVar 1)) aNil)))
 sNil)
 (sRet (dC (.int 0))))
theorem bd__law_cell {P : Program} {w : World} {K : PySem.W.Frag} {mg : Str → Option Value} {base : Heap} (G : Gm K mg)  : BodyC P w K mg base N__law_cell "_law_cell" (defScope s__law_cell) (defBody s__law_cell) 0 tb__law_cell :=
 fun f cd A outer s H E hr tk hp =>
 (ss_cons (s1_if (st_lt (se_var 1) (se_len G.m_len (sa_cons (se_var 0) sa_nil)))
 (ss_one (s1_ret (se_intc G.m_int (sa_cons (se_sub (se_var 0) (se_var 1)) sa_nil))))
 ss_nil)
 (ss_one (s1_ret se_int)))
abbrev s__law_row : Stmt := top 21
abbrev N__law_row : List Str := ["script", "at", "many", "limit", "row", "left", "k"]
abbrev P__law_row : List Str := ["script", "at", "many", "limit"]
theorem sc__law_row : FnScope N__law_row P__law_row (defScope s__law_row) := ⟨rfl, rfl, rfl, by decide +kernel, rfl, by decide +kernel, by decide +kernel⟩
def tb__law_row : DS :=
 (sSeq (sSet 4 (dLstH aNil))
 (sSeq (sSet 5 (dCall ct__law_cell 2 (aCons (dVar 0) (aCons (dVar 1) aNil))))
 (sSeq (sIf (dTst (dOp oGe (dVar 5) (dOp oPow (dC (.int 10)) (dC (.int 18)))))
 (sSeq (sSet 5 (dOp oSub (dVar 5) (dOp oPow (dC (.int 10)) (dC (.int 18)))))
 (sSeq (sFor (iR1 (aCons (dVar 2) aNil)) (tgN 6)
 (sSeq (sExpr (dBM "list" mApp (dVar 4) (aCons (dOp oMod (dCB nInt (aCons (dVar 5) aNil)) (dVar 3)) aNil)))
 (sSet 5 (dOp oDiv (dVar 5) (dVar 3)))))
 (sRet (dVar 4))))
 sNil)
 (sSeq (sSet 5 (dOp oMod (dCB nInt (aCons (dVar 5) aNil)) (dC (.int 2147483647))))
 (sSeq (sFor (iR1 (aCons (dVar 2) aNil)) (tgN 6)
 (sSeq (sSet 5 (dOp oMod (dCB nInt (aCons (dOp dMul (dOp dAdd (dOp dAdd (dOp dAdd (dVar 5) (dCall ct__law_cell 2 (aCons (dVar 0) (aCons (dOp dAdd (dOp dAdd (dVar 1) (dC (.int 4))) (dVar 6)) aNil)))) (dVar 6)) (dC (.int 1))) (dC (.int 48271))) aNil)) (dC (.int 2147483647))))
 (sExpr (dBM "list" mApp (dVar 4) (aCons (dOp oMod (dOp oDiv (dOp oMod (dCB nInt (aCons (dOp dAdd (dOp dMul (dVar 5) (dC (.int 69621))) (dOp dMul (dVar 6) (dC (.int 40692)))) aNil)) (dC (.int 1999999973))) (dC (.int 1009))) (dVar 3)) aNil)))))
 (sRet (dVar 4)))))))
theorem bd__law_row {P : Program} {w : World} {K : PySem.W.Frag} {mg : Str → Option Value} {base : Heap} (G : Gm K mg) (F__law_cell : FnC P w K mg base 1 "_law_cell" 2 ct__law_cell) : BodyC P w K mg base N__law_row "_law_row" (defScope s__law_row) (defBody s__law_row) 1 tb__law_row :=
 fun f cd A outer s H E hr tk hp =>
 (ss_cons (s1_set 4 sc__law_row.nd (se_lstH sa_nil))
 (ss_cons (s1_set 5 sc__law_row.nd (se_call F__law_cell tk (hr.mono (by decide)) (sa_cons (se_var 0) (sa_cons (se_var 1) sa_nil))))
 (ss_cons (s1_if (st_ge (se_var 5) (se_pow se_int se_int))
 (ss_cons (s1_set 5 sc__law_row.nd (se_sub2 (se_var 5) (se_pow se_int se_int)))
 (ss_cons (s1_for hp rfl (si_range1 G.m_range (sa_cons (se_var 2) sa_nil)) (sg_name sc__law_row.nd)
 (ss_cons (s1_expr (se_append (se_var 4) (sa_cons (se_mod (se_intc G.m_int (sa_cons (se_var 5) sa_nil)) (se_var 3)) sa_nil)))
 (ss_one (s1_set 5 sc__law_row.nd (se_fdiv (se_var 5) (se_var 3))))))
 (ss_one (s1_ret (se_var 4)))))
 ss_nil)
 (ss_cons (s1_set 5 sc__law_row.nd (se_mod (se_intc G.m_int (sa_cons (se_var 5) sa_nil)) se_int))
 (ss_cons (s1_for hp rfl (si_range1 G.m_range (sa_cons (se_var 2) sa_nil)) (sg_name sc__law_row.nd)
 (ss_cons (s1_set 5 sc__law_row.nd (se_mod (se_intc G.m_int (sa_cons (se_mul (se_add (se_add (se_add (se_var 5) (se_call F__law_cell tk (hr.mono (by decide)) (sa_cons (se_var 0) (sa_cons (se_add (se_add (se_var 1) se_int) (se_var 6)) sa_nil)))) (se_var 6)) se_int) se_int) sa_nil)) se_int))
 (ss_one (s1_expr (se_append (se_var 4) (sa_cons (se_mod (se_fdiv (se_mod (se_intc G.m_int (sa_cons (se_add (se_mul (se_var 5) se_int) (se_mul (se_var 6) se_int)) sa_nil)) se_int) se_int) (se_var 3)) sa_nil))))))
 (ss_one (s1_ret (se_var 4))))))))
abbrev s__law_word : Stmt := top 22
abbrev N__law_word : List Str := ["number", "length", "k"]
abbrev P__law_word : List Str := ["number", "length"]
theorem sc__law_word : FnScope N__law_word P__law_word (defScope s__law_word) := ⟨rfl, rfl, rfl, by decide +kernel, rfl, by decide +kernel, by decide +kernel⟩
def tb__law_word : DS :=
 (sRet (dCB nTup (aCons (dLc (iR1 (aCons (dVar 1) aNil)) (tgN 2) dYes (dOp oMod (dCB nInt (aCons (dOp oShr (dVar 0) (dOp oSub (dOp oSub (dVar 1) (dC (.int 1))) (dVar 2))) aNil)) (dC (.int 2))) [2]) aNil)))
theorem bd__law_word {P : Program} {w : World} {K : PySem.W.Frag} {mg : Str → Option Value} {base : Heap} (G : Gm K mg)  : BodyC P w K mg base N__law_word "_law_word" (defScope s__law_word) (defBody s__law_word) 0 tb__law_word :=
 fun f cd A outer s H E hr tk hp =>
 (ss_one (s1_ret (se_tuple G.m_tuple (sa_cons (se_lc (own := [("k", 2)]) rfl sc__law_word.nd (si_range1 G.m_range (sa_cons (se_var 1) sa_nil)) (by show BlkOk N__law_word (defScope s__law_word) _ [("k", 2)]; exact ⟨rfl, by decide +kernel, by decide +kernel, by decide +kernel, by decide +kernel⟩) (fun _ _ _ _ _ => (sg_name sc__law_word.nd)) (fun _ _ _ _ _ => sp_nil) (fun _ _ _ _ _ => (se_mod (se_intc G.m_int (sa_cons (se_shr (se_var 0) (se_sub2 (se_sub2 (se_var 1) se_int) (se_var 2))) sa_nil)) se_int))) sa_nil))))
abbrev s__law_drawn : Stmt := top 23
abbrev N__law_drawn : List Str := ["script", "at", "many", "length", "halves", "found", "k", "number"]
abbrev P__law_drawn : List Str := ["script", "at", "many", "length"]
theorem sc__law_drawn : FnScope N__law_drawn P__law_drawn (defScope s__law_drawn) := ⟨rfl, rfl, rfl, by decide +kernel, rfl, by decide +kernel, by decide +kernel⟩
def tb__law_drawn : DS :=
 (sSeq (sSet 4 (dCall ct__law_row 4 (aCons (dVar 0) (aCons (dVar 1) (aCons (dOp dMul (dC (.int 2)) (dVar 2)) (aCons (dC (.int 1048576)) aNil))))))
 (sSeq (sSet 5 (dLstH aNil))
 (sSeq (sFor (iR1 (aCons (dVar 2) aNil)) (tgN 6)
 (sSeq (sSet 7 (dOp oMod (dCB nInt (aCons (dOp dAdd (dOp dMul (dOp dIx (dVar 4) (dOp dMul (dC (.int 2)) (dVar 6))) (dC (.int 1048576))) (dOp dIx (dVar 4) (dOp dAdd (dOp dMul (dC (.int 2)) (dVar 6)) (dC (.int 1))))) aNil)) (dOp oShl (dC (.int 1)) (dVar 3))))
 (sIf (dTst (dOp (dIn true) (dVar 7) (dVar 5)))
 (sExpr (dBM "list" mApp (dVar 5) (aCons (dVar 7) aNil)))
 sNil)))
 (sRet (dCB nSrtI (aCons (dVar 5) aNil))))))
theorem bd__law_drawn {P : Program} {w : World} {K : PySem.W.Frag} {mg : Str → Option Value} {base : Heap} (G : Gm K mg) (F__law_row : FnC P w K mg base 2 "_law_row" 4 ct__law_row) : BodyC P w K mg base N__law_drawn "_law_drawn" (defScope s__law_drawn) (defBody s__law_drawn) 2 tb__law_drawn :=
 fun f cd A outer s H E hr tk hp =>
 (ss_cons (s1_set 4 sc__law_drawn.nd (se_call F__law_row tk (hr.mono (by decide)) (sa_cons (se_var 0) (sa_cons (se_var 1) (sa_cons (se_mul se_int (se_var 2)) (sa_cons se_int sa_nil))))))
 (ss_cons (s1_set 5 sc__law_drawn.nd (se_lstH sa_nil))
 (ss_cons (s1_for hp rfl (si_range1 G.m_range (sa_cons (se_var 2) sa_nil)) (sg_name sc__law_drawn.nd)
 (ss_cons (s1_set 7 sc__law_drawn.nd (se_mod (se_intc G.m_int (sa_cons (se_add (se_mul (se_sub (se_var 4) (se_mul se_int (se_var 6))) se_int) (se_sub (se_var 4) (se_add (se_mul se_int (se_var 6)) se_int))) sa_nil)) (se_shl se_int (se_var 3))))
 (ss_one (s1_if (st_notIn (uu1 hr) (se_var 7) (se_var 5))
 (ss_one (s1_expr (se_append (se_var 5) (sa_cons (se_var 7) sa_nil))))
 ss_nil))))
 (ss_one (s1_ret (se_sortI G.m_sorted (sa_cons (se_var 5) sa_nil)))))))
abbrev s__law_majority : Stmt := top 24
abbrev N__law_majority : List Str := ["one", "other", "third"]
abbrev P__law_majority : List Str := ["one", "other", "third"]
theorem sc__law_majority : FnScope N__law_majority P__law_majority (defScope s__law_majority) := ⟨rfl, rfl, rfl, by decide +kernel, rfl, by decide +kernel, by decide +kernel⟩
def tb__law_majority : DS :=
 (sRet (dOp oOr (dOp oOr (dOp oAnd (dVar 0) (dVar 1)) (dOp oAnd (dVar 0) (dVar 2))) (dOp oAnd (dVar 1) (dVar 2))))
theorem bd__law_majority {P : Program} {w : World} {K : PySem.W.Frag} {mg : Str → Option Value} {base : Heap} (G : Gm K mg)  : BodyC P w K mg base N__law_majority "_law_majority" (defScope s__law_majority) (defBody s__law_majority) 0 tb__law_majority :=
 fun f cd A outer s H E hr tk hp =>
 (ss_one (s1_ret (se_bor (se_bor (se_band (se_var 0) (se_var 1)) (se_band (se_var 0) (se_var 2))) (se_band (se_var 1) (se_var 2)))))
abbrev s__law_closure : Stmt := top 25
abbrev N__law_closure : List Str := ["row", "most", "found", "seen", "number", "k", "i", "j"]
abbrev P__law_closure : List Str := ["row", "most"]
theorem sc__law_closure : FnScope N__law_closure P__law_closure (defScope s__law_closure) := ⟨rfl, rfl, rfl, by decide +kernel, rfl, by decide +kernel, by decide +kernel⟩
def tb__law_closure : DS :=
 (sSeq (sSet 2 (dCB nLstH (aCons (dVar 0) aNil)))
 (sSeq (sSet 3 dDNew)
 (sSeq (sFor (iS (dVar 0)) (tgN 4)
 (sDPutD (dVar 3) (dVar 4) (dC (.bl true))))
 (sSeq (sFor (iR1 (aCons (dOp dAdd (dVar 1) (dC (.int 1))) aNil)) (tgN 5)
 (sSeq (sIf (dOr (dTst (dOp oGe (dVar 5) (dCB nLen (aCons (dVar 2) aNil)))) (dTst (dOp oGt (dCB nLen (aCons (dVar 2) aNil)) (dVar 1))))
 (sRet (dCB nSrtI (aCons (dVar 2) aNil)))
 sNil)
 (sFor (iR1 (aCons (dVar 5) aNil)) (tgN 6)
 (sFor (iR1 (aCons (dVar 6) aNil)) (tgN 7)
 (sSeq (sSet 4 (dCall ct__law_majority 3 (aCons (dOp dIx (dVar 2) (dVar 6)) (aCons (dOp dIx (dVar 2) (dVar 7)) (aCons (dOp dIx (dVar 2) (dVar 5)) aNil)))))
 (sIf (dTst (dOp (dInC true) (dVar 4) (dVar 3)))
 (sSeq (sDPutD (dVar 3) (dVar 4) (dC (.bl true)))
 (sExpr (dBM "list" mApp (dVar 2) (aCons (dVar 4) aNil))))
 sNil))))))
 (sRet (dCB nSrtI (aCons (dVar 2) aNil)))))))
theorem bd__law_closure {P : Program} {w : World} {K : PySem.W.Frag} {mg : Str → Option Value} {base : Heap} (G : Gm K mg) (F__law_majority : FnC P w K mg base 1 "_law_majority" 3 ct__law_majority) : BodyC P w K mg base N__law_closure "_law_closure" (defScope s__law_closure) (defBody s__law_closure) 1 tb__law_closure :=
 fun f cd A outer s H E hr tk hp =>
 (ss_cons (s1_set 2 sc__law_closure.nd (se_listH G.m_list (sa_cons (se_var 0) sa_nil)))
 (ss_cons (s1_set 3 sc__law_closure.nd se_dnew)
 (ss_cons (s1_for hp rfl (si_any (se_var 0)) (sg_name sc__law_closure.nd)
 (ss_one (s1_dput (uu1 hr) (se_var 3) (se_var 4) se_bl)))
 (ss_cons (s1_for hp rfl (si_range1 G.m_range (sa_cons (se_add (se_var 1) se_int) sa_nil)) (sg_name sc__law_closure.nd)
 (ss_cons (s1_if (st_w (sw_or (st_ge (se_var 5) (se_len G.m_len (sa_cons (se_var 2) sa_nil))) (sw_or1 (st_gt (se_len G.m_len (sa_cons (se_var 2) sa_nil)) (se_var 1)))))
 (ss_one (s1_ret (se_sortI G.m_sorted (sa_cons (se_var 2) sa_nil))))
 ss_nil)
 (ss_one (s1_for hp rfl (si_range1 G.m_range (sa_cons (se_var 5) sa_nil)) (sg_name sc__law_closure.nd)
 (ss_one (s1_for hp rfl (si_range1 G.m_range (sa_cons (se_var 6) sa_nil)) (sg_name sc__law_closure.nd)
 (ss_cons (s1_set 4 sc__law_closure.nd (se_call F__law_majority tk (hr.mono (by decide)) (sa_cons (se_sub (se_var 2) (se_var 6)) (sa_cons (se_sub (se_var 2) (se_var 7)) (sa_cons (se_sub (se_var 2) (se_var 5)) sa_nil)))))
 (ss_one (s1_if (st_notInC (uu1 hr) (se_var 4) (se_var 3))
 (ss_cons (s1_dput (uu1 hr) (se_var 3) (se_var 4) se_bl)
 (ss_one (s1_expr (se_append (se_var 2) (sa_cons (se_var 4) sa_nil)))))
 ss_nil)))))))))
 (ss_one (s1_ret (se_sortI G.m_sorted (sa_cons (se_var 2) sa_nil))))))))
def tb__law_axes_X1 : DS :=
 (sSeq (sSet 4 (dOp oSub (dOp dAdd (dOp dAdd (dVar 1) (dVar 2)) (dVar 3)) (dC (.int 3))))
 (sSeq (sSet 5 (dCB nMax2 (aCons (dC (.int 0)) (aCons (dCB nMin2 (aCons (dOp oSub (dOp dAdd (dC (.int 38)) (dOp oMod (dOp dIx (dVar 0) (dC (.int 3))) (dC (.int 6)))) (dOp dMul (dOp dMul (dVar 1) (dVar 2)) (dVar 3))) (aCons (dOp oSub (dC (.int 39)) (dVar 4)) aNil))) aNil))))
 (sSeq (sSet 6 (dLcH (iR1 (aCons (dVar 1) aNil)) (tgN 7) dYes (dOp oSub (dOp oShl (dC (.int 1)) (dVar 7)) (dC (.int 1))) [7]))
 (sSeq (sSet 6 (dOp dAddH (dVar 6) (dLc (iR2 (aCons (dC (.int 1)) (aCons (dVar 2) aNil))) (tgN 7) dYes (dOp oShl (dOp oSub (dOp oShl (dC (.int 1)) (dVar 7)) (dC (.int 1))) (dOp oSub (dVar 1) (dC (.int 1)))) [7])))
 (sSeq (sSet 6 (dOp dAddH (dVar 6) (dLc (iR2 (aCons (dC (.int 1)) (aCons (dVar 3) aNil))) (tgN 7) dYes (dOp oShl (dOp oSub (dOp oShl (dC (.int 1)) (dVar 7)) (dC (.int 1))) (dOp oSub (dOp dAdd (dVar 1) (dVar 2)) (dC (.int 2)))) [7])))
 (sSeq (sFor (iR1 (aCons (dOp dAdd (dVar 5) (dC (.int 1))) aNil)) (tgN 8)
 (sIf (dTst (dOp (dIn true) (dOp oSub (dOp oShl (dC (.int 1)) (dOp dAdd (dVar 4) (dVar 8))) (dC (.int 1))) (dVar 6)))
 (sExpr (dBM "list" mApp (dVar 6) (aCons (dOp oSub (dOp oShl (dC (.int 1)) (dOp dAdd (dVar 4) (dVar 8))) (dC (.int 1))) aNil)))
 sNil))
 (sRet (dLst (aCons (dOp dAdd (dVar 4) (dVar 5)) (aCons (dSl (dVar 6) oNon (oSome (dC (.int 40)))) aNil))))))))))
abbrev s__law_axes : Stmt := top 26
abbrev N__law_axes : List Str := ["picks", "wide", "high", "deep", "letters", "tail", "row", "i", "k"]
abbrev P__law_axes : List Str := ["picks"]
theorem sc__law_axes : FnScope N__law_axes P__law_axes (defScope s__law_axes) := ⟨rfl, rfl, rfl, by decide +kernel, rfl, by decide +kernel, by decide +kernel⟩
def tb__law_axes : DS :=
 (sSeq (sSet 1 (dOp dAdd (dC (.int 1)) (dOp oMod (dOp dIx (dVar 0) (dC (.int 0))) (dC (.int 8)))))
 (sSeq (sSet 2 (dOp dAdd (dC (.int 1)) (dOp oMod (dOp dIx (dVar 0) (dC (.int 1))) (dC (.int 8)))))
 (sSeq (sSet 3 (dOp dAdd (dC (.int 1)) (dOp oMod (dOp dIx (dVar 0) (dC (.int 2))) (dC (.int 3)))))
 (sSeq (sIf (dTst (dOp oGt (dOp oMod (dOp dIx (dVar 0) (dC (.int 2))) (dC (.int 5))) (dC (.int 1))))
 (sSet 3 (dC (.int 1)))
 sNil)
 tb__law_axes_X1))))
theorem bd__law_axes {P : Program} {w : World} {K : PySem.W.Frag} {mg : Str → Option Value} {base : Heap} (G : Gm K mg)  : BodyC P w K mg base N__law_axes "_law_axes" (defScope s__law_axes) (defBody s__law_axes) 0 tb__law_axes :=
 fun f cd A outer s H E hr tk hp =>
 (ss_cons (s1_set 1 sc__law_axes.nd (se_add se_int (se_mod (se_sub (se_var 0) se_int) se_int)))
 (ss_cons (s1_set 2 sc__law_axes.nd (se_add se_int (se_mod (se_sub (se_var 0) se_int) se_int)))
 (ss_cons (s1_set 3 sc__law_axes.nd (se_add se_int (se_mod (se_sub (se_var 0) se_int) se_int)))
 (ss_cons (s1_if (st_gt (se_mod (se_sub (se_var 0) se_int) se_int) se_int)
 (ss_one (s1_set 3 sc__law_axes.nd se_int))
 ss_nil)
 (ss_cons (s1_set 4 sc__law_axes.nd (se_sub2 (se_add (se_add (se_var 1) (se_var 2)) (se_var 3)) se_int))
 (ss_cons (s1_set 5 sc__law_axes.nd (se_max2 rfl G.m_max (sa_cons se_int (sa_cons (se_min2 rfl G.m_min (sa_cons (se_sub2 (se_add se_int (se_mod (se_sub (se_var 0) se_int) se_int)) (se_mul (se_mul (se_var 1) (se_var 2)) (se_var 3))) (sa_cons (se_sub2 se_int (se_var 4)) sa_nil))) sa_nil))))
 (ss_cons (s1_setLcH 6 (own := [("i", 7)]) rfl sc__law_axes.nd (si_range1 G.m_range (sa_cons (se_var 1) sa_nil)) (by show BlkOk N__law_axes (defScope s__law_axes) _ [("i", 7)]; exact ⟨rfl, by decide +kernel, by decide +kernel, by decide +kernel, by decide +kernel⟩) (fun _ _ _ _ _ => (sg_name sc__law_axes.nd)) (fun _ _ _ _ _ => sp_nil) (fun _ _ _ _ _ => (se_sub2 (se_shl se_int (se_var 7)) se_int)))
 (ss_cons (s1_set 6 sc__law_axes.nd (se_addH (se_var 6) (se_lc (own := [("i", 7)]) rfl sc__law_axes.nd (si_range2 G.m_range (sa_cons se_int (sa_cons (se_var 2) sa_nil))) (by show BlkOk N__law_axes (defScope s__law_axes) _ [("i", 7)]; exact ⟨rfl, by decide +kernel, by decide +kernel, by decide +kernel, by decide +kernel⟩) (fun _ _ _ _ _ => (sg_name sc__law_axes.nd)) (fun _ _ _ _ _ => sp_nil) (fun _ _ _ _ _ => (se_shl (se_sub2 (se_shl se_int (se_var 7)) se_int) (se_sub2 (se_var 1) se_int))))))
 (ss_cons (s1_set 6 sc__law_axes.nd (se_addH (se_var 6) (se_lc (own := [("i", 7)]) rfl sc__law_axes.nd (si_range2 G.m_range (sa_cons se_int (sa_cons (se_var 3) sa_nil))) (by show BlkOk N__law_axes (defScope s__law_axes) _ [("i", 7)]; exact ⟨rfl, by decide +kernel, by decide +kernel, by decide +kernel, by decide +kernel⟩) (fun _ _ _ _ _ => (sg_name sc__law_axes.nd)) (fun _ _ _ _ _ => sp_nil) (fun _ _ _ _ _ => (se_shl (se_sub2 (se_shl se_int (se_var 7)) se_int) (se_sub2 (se_add (se_var 1) (se_var 2)) se_int))))))
 (ss_cons (s1_for hp rfl (si_range1 G.m_range (sa_cons (se_add (se_var 5) se_int) sa_nil)) (sg_name sc__law_axes.nd)
 (ss_one (s1_if (st_notIn (uu1 hr) (se_sub2 (se_shl se_int (se_add (se_var 4) (se_var 8))) se_int) (se_var 6))
 (ss_one (s1_expr (se_append (se_var 6) (sa_cons (se_sub2 (se_shl se_int (se_add (se_var 4) (se_var 8))) se_int) sa_nil))))
 ss_nil)))
 (ss_one (s1_ret (se_lst (sa_cons (se_add (se_var 4) (se_var 5)) (sa_cons (se_slice (se_var 6) so_none (so_some se_int)) sa_nil)))))))))))))))
abbrev s__law_mixed : Stmt := top 27
abbrev N__law_mixed : List Str := ["letters", "row", "keys", "extra", "sources", "k", "order", "found", "number", "made"]
abbrev P__law_mixed : List Str := ["letters", "row", "keys"]
theorem sc__law_mixed : FnScope N__law_mixed P__law_mixed (defScope s__law_mixed) := ⟨rfl, rfl, rfl, by decide +kernel, rfl, by decide +kernel, by decide +kernel⟩
def tb__law_mixed : DS :=
 (sSeq (sSet 3 (dCB nMin2 (aCons (dOp oMod (dOp dIx (dVar 2) (dC (.int 0))) (dC (.int 4))) (aCons (dOp oSub (dC (.int 39)) (dVar 0)) aNil))))
 (sSeq (sSet 4 (dOp dAdd (dLc (iR1 (aCons (dVar 0) aNil)) (tgN 5) dYes (dVar 5) [5]) (dLc (iR1 (aCons (dVar 3) aNil)) (tgN 5) dYes (dOp oMod (dOp dIx (dVar 2) (dOp dAdd (dC (.int 1)) (dVar 5))) (dOp dAdd (dVar 0) (dC (.int 1)))) [5])))
 (sSeq (sSet 6 (dCB nSrtI (aCons (dLc (iR1 (aCons (dCB nLen (aCons (dVar 4) aNil)) aNil)) (tgN 5) dYes (dOp dAdd (dOp dMul (dOp dIx (dVar 2) (dOp dAdd (dC (.int 5)) (dVar 5))) (dC (.int 64))) (dVar 5)) [5]) aNil)))
 (sSeq (sSet 7 (dLstH aNil))
 (sSeq (sFor (iS (dVar 1)) (tgN 8)
 (sSeq (sSet 9 (dC (.int 0)))
 (sSeq (sFor (iR1 (aCons (dCB nLen (aCons (dVar 6) aNil)) aNil)) (tgN 5)
 (sSet 9 (dOp dAdd (dOp dMul (dVar 9) (dC (.int 2))) (dOp oMod (dCB nInt (aCons (dOp dAdd (dOp oShr (dVar 8) (dOp dIx (dVar 4) (dOp oMod (dCB nInt (aCons (dOp dIx (dVar 6) (dVar 5)) aNil)) (dC (.int 64))))) (dOp oDiv (dOp dIx (dVar 2) (dOp dAdd (dC (.int 5)) (dVar 5))) (dC (.int 7)))) aNil)) (dC (.int 2))))))
 (sExpr (dBM "list" mApp (dVar 7) (aCons (dVar 9) aNil))))))
 (sRet (dLstH (aCons (dCB nLen (aCons (dVar 6) aNil)) (aCons (dCB nSrtI (aCons (dVar 7) aNil)) aNil)))))))))
theorem bd__law_mixed {P : Program} {w : World} {K : PySem.W.Frag} {mg : Str → Option Value} {base : Heap} (G : Gm K mg)  : BodyC P w K mg base N__law_mixed "_law_mixed" (defScope s__law_mixed) (defBody s__law_mixed) 0 tb__law_mixed :=
 fun f cd A outer s H E hr tk hp =>
 (ss_cons (s1_set 3 sc__law_mixed.nd (se_min2 rfl G.m_min (sa_cons (se_mod (se_sub (se_var 2) se_int) se_int) (sa_cons (se_sub2 se_int (se_var 0)) sa_nil))))
 (ss_cons (s1_set 4 sc__law_mixed.nd (se_add (se_lc (own := [("k", 5)]) rfl sc__law_mixed.nd (si_range1 G.m_range (sa_cons (se_var 0) sa_nil)) (by show BlkOk N__law_mixed (defScope s__law_mixed) _ [("k", 5)]; exact ⟨rfl, by decide +kernel, by decide +kernel, by decide +kernel, by decide +kernel⟩) (fun _ _ _ _ _ => (sg_name sc__law_mixed.nd)) (fun _ _ _ _ _ => sp_nil) (fun _ _ _ _ _ => (se_var 5))) (se_lc (own := [("k", 5)]) rfl sc__law_mixed.nd (si_range1 G.m_range (sa_cons (se_var 3) sa_nil)) (by show BlkOk N__law_mixed (defScope s__law_mixed) _ [("k", 5)]; exact ⟨rfl, by decide +kernel, by decide +kernel, by decide +kernel, by decide +kernel⟩) (fun _ _ _ _ _ => (sg_name sc__law_mixed.nd)) (fun _ _ _ _ _ => sp_nil) (fun _ _ _ _ _ => (se_mod (se_sub (se_var 2) (se_add se_int (se_var 5))) (se_add (se_var 0) se_int))))))
 (ss_cons (s1_set 6 sc__law_mixed.nd (se_sortI G.m_sorted (sa_cons (se_lc (own := [("k", 5)]) rfl sc__law_mixed.nd (si_range1 G.m_range (sa_cons (se_len G.m_len (sa_cons (se_var 4) sa_nil)) sa_nil)) (by show BlkOk N__law_mixed (defScope s__law_mixed) _ [("k", 5)]; exact ⟨rfl, by decide +kernel, by decide +kernel, by decide +kernel, by decide +kernel⟩) (fun _ _ _ _ _ => (sg_name sc__law_mixed.nd)) (fun _ _ _ _ _ => sp_nil) (fun _ _ _ _ _ => (se_add (se_mul (se_sub (se_var 2) (se_add se_int (se_var 5))) se_int) (se_var 5)))) sa_nil)))
 (ss_cons (s1_set 7 sc__law_mixed.nd (se_lstH sa_nil))
 (ss_cons (s1_for hp rfl (si_any (se_var 1)) (sg_name sc__law_mixed.nd)
 (ss_cons (s1_set 9 sc__law_mixed.nd se_int)
 (ss_cons (s1_for hp rfl (si_range1 G.m_range (sa_cons (se_len G.m_len (sa_cons (se_var 6) sa_nil)) sa_nil)) (sg_name sc__law_mixed.nd)
 (ss_one (s1_set 9 sc__law_mixed.nd (se_add (se_mul (se_var 9) se_int) (se_mod (se_intc G.m_int (sa_cons (se_add (se_shr (se_var 8) (se_sub (se_var 4) (se_mod (se_intc G.m_int (sa_cons (se_sub (se_var 6) (se_var 5)) sa_nil)) se_int))) (se_fdiv (se_sub (se_var 2) (se_add se_int (se_var 5))) se_int)) sa_nil)) se_int)))))
 (ss_one (s1_expr (se_append (se_var 7) (sa_cons (se_var 9) sa_nil)))))))
 (ss_one (s1_ret (se_lstH (sa_cons (se_len G.m_len (sa_cons (se_var 6) sa_nil)) (sa_cons (se_sortI G.m_sorted (sa_cons (se_var 7) sa_nil)) sa_nil))))))))))
def tb__law_bag_B1 : DS :=
 (sSeq (sIf (dTst (dOp dEq (dOp oMod (dOp dIx (dVar 1) (dC (.int 5))) (dC (.int 5))) (dC (.int 1))))
 (sSeq (sSet 6 (dOp dIx (dCall ct__law_drawn 4 (aCons (dVar 0) (aCons (dC (.int 2)) (aCons (dC (.int 1)) (aCons (dOp dIx (dVar 4) (dC (.int 0))) aNil))))) (dC (.int 0))))
 (sIf (dAnd (dTst (dOp (dIn true) (dVar 6) (dOp dIx (dVar 4) (dC (.int 1))))) (dTst (dOp oLt (dCB nLen (aCons (dOp dIx (dVar 4) (dC (.int 1))) aNil)) (dC (.int 40)))))
 (sAsg (dCB nSrtI (aCons (dOp dAdd (dOp dIx (dVar 4) (dC (.int 1))) (dLst (aCons (dVar 6) aNil))) aNil)) (tgSub (dVar 4) (dC (.int 1))))
 sNil))
 sNil)
 (sRet (dVar 4)))
abbrev s__law_bag : Stmt := top 28
abbrev N__law_bag : List Str := ["script", "picks", "kind", "length", "made", "at", "number"]
abbrev P__law_bag : List Str := ["script"]
theorem sc__law_bag : FnScope N__law_bag P__law_bag (defScope s__law_bag) := ⟨rfl, rfl, rfl, by decide +kernel, rfl, by decide +kernel, by decide +kernel⟩
def tb__law_bag : DS :=
 (sSeq (sSet 1 (dCall ct__law_row 4 (aCons (dVar 0) (aCons (dC (.int 0)) (aCons (dC (.int 8)) (aCons (dC (.int 1009)) aNil))))))
 (sSeq (sSet 2 (dOp oMod (dOp dIx (dVar 1) (dC (.int 0))) (dC (.int 8))))
 (sSeq (sIf (dTst (dOp oLt (dVar 2) (dC (.int 3))))
 (sSeq (sSet 3 (dOp dAdd (dC (.int 1)) (dOp oMod (dOp dIx (dVar 1) (dC (.int 1))) (dC (.int 7)))))
 (sRet (dLst (aCons (dVar 3) (aCons (dCall ct__law_drawn 4 (aCons (dVar 0) (aCons (dC (.int 1)) (aCons (dOp dAdd (dC (.int 1)) (dOp oMod (dOp dIx (dVar 1) (dC (.int 2))) (dC (.int 8)))) (aCons (dVar 3) aNil))))) aNil)))))
 sNil)
 (sSeq (sIf (dTst (dOp dEq (dVar 2) (dC (.int 3))))
 (sSeq (sSet 3 (dOp dIx (dLst (aCons (dOp oMod (dOp dIx (dVar 1) (dC (.int 1))) (dC (.int 40))) (aCons (dC (.int 39)) (aCons (dC (.int 0)) (aCons (dC (.int 1)) aNil))))) (dOp oMod (dOp dIx (dVar 1) (dC (.int 3))) (dC (.int 4)))))
 (sRet (dLst (aCons (dVar 3) (aCons (dCall ct__law_drawn 4 (aCons (dVar 0) (aCons (dC (.int 1)) (aCons (dOp dAdd (dC (.int 1)) (dOp oMod (dOp dIx (dVar 1) (dC (.int 2))) (dC (.int 40)))) (aCons (dVar 3) aNil))))) aNil)))))
 sNil)
 (sSeq (sSet 4 (dCall ct__law_axes 1 (aCons (dSl (dVar 1) (oSome (dC (.int 1))) (oSome (dC (.int 5)))) aNil)))
 (sSeq (sSet 4 (dCall ct__law_mixed 3 (aCons (dOp dIx (dVar 4) (dC (.int 0))) (aCons (dOp dIx (dVar 4) (dC (.int 1))) (aCons (dCall ct__law_row 4 (aCons (dVar 0) (aCons (dC (.int 1)) (aCons (dC (.int 44)) (aCons (dC (.int 1009)) aNil))))) aNil)))))
 (sSeq (sSet 5 (dOp oMod (dOp dIx (dVar 1) (dC (.int 6))) (dCB nLen (aCons (dOp dIx (dVar 4) (dC (.int 1))) aNil))))
 (sSeq (sIf (dAnd (dTst (dOp dEq (dOp oMod (dOp dIx (dVar 1) (dC (.int 5))) (dC (.int 5))) (dC (.int 0)))) (dTst (dOp oGt (dCB nLen (aCons (dOp dIx (dVar 4) (dC (.int 1))) aNil)) (dC (.int 1)))))
 (sAsg (dOp dAdd (dSl (dOp dIx (dVar 4) (dC (.int 1))) oNon (oSome (dVar 5))) (dSl (dOp dIx (dVar 4) (dC (.int 1))) (oSome (dOp dAdd (dVar 5) (dC (.int 1)))) oNon)) (tgSub (dVar 4) (dC (.int 1))))
 sNil)
 tb__law_bag_B1))))))))
theorem bd__law_bag {P : Program} {w : World} {K : PySem.W.Frag} {mg : Str → Option Value} {base : Heap} (G : Gm K mg) (F__law_axes : FnC P w K mg base 1 "_law_axes" 1 ct__law_axes) (F__law_drawn : FnC P w K mg base 3 "_law_drawn" 4 ct__law_drawn) (F__law_mixed : FnC P w K mg base 1 "_law_mixed" 3 ct__law_mixed) (F__law_row : FnC P w K mg base 2 "_law_row" 4 ct__law_row) : BodyC P w K mg base N__law_bag "_law_bag" (defScope s__law_bag) (defBody s__law_bag) 3 tb__law_bag :=
 fun f cd A outer s H E hr tk hp =>
 (ss_cons (s1_set 1 sc__law_bag.nd (se_call F__law_row tk (hr.mono (by decide)) (sa_cons (se_var 0) (sa_cons se_int (sa_cons se_int (sa_cons se_int sa_nil))))))
 (ss_cons (s1_set 2 sc__law_bag.nd (se_mod (se_sub (se_var 1) se_int) se_int))
 (ss_cons (s1_if (st_lt (se_var 2) se_int)
 (ss_cons (s1_set 3 sc__law_bag.nd (se_add se_int (se_mod (se_sub (se_var 1) se_int) se_int)))
 (ss_one (s1_ret (se_lst (sa_cons (se_var 3) (sa_cons (se_call F__law_drawn tk (hr.mono (by decide)) (sa_cons (se_var 0) (sa_cons se_int (sa_cons (se_add se_int (se_mod (se_sub (se_var 1) se_int) se_int)) (sa_cons (se_var 3) sa_nil))))) sa_nil))))))
 ss_nil)
 (ss_cons (s1_if (st_eq (uu hr) (se_var 2) se_int)
 (ss_cons (s1_set 3 sc__law_bag.nd (se_sub (se_lst (sa_cons (se_mod (se_sub (se_var 1) se_int) se_int) (sa_cons se_int (sa_cons se_int (sa_cons se_int sa_nil))))) (se_mod (se_sub (se_var 1) se_int) se_int)))
 (ss_one (s1_ret (se_lst (sa_cons (se_var 3) (sa_cons (se_call F__law_drawn tk (hr.mono (by decide)) (sa_cons (se_var 0) (sa_cons se_int (sa_cons (se_add se_int (se_mod (se_sub (se_var 1) se_int) se_int)) (sa_cons (se_var 3) sa_nil))))) sa_nil))))))
 ss_nil)
 (ss_cons (s1_set 4 sc__law_bag.nd (se_call F__law_axes tk (hr.mono (by decide)) (sa_cons (se_slice (se_var 1) (so_some se_int) (so_some se_int)) sa_nil)))
 (ss_cons (s1_set 4 sc__law_bag.nd (se_call F__law_mixed tk (hr.mono (by decide)) (sa_cons (se_sub (se_var 4) se_int) (sa_cons (se_sub (se_var 4) se_int) (sa_cons (se_call F__law_row tk (hr.mono (by decide)) (sa_cons (se_var 0) (sa_cons se_int (sa_cons se_int (sa_cons se_int sa_nil))))) sa_nil)))))
 (ss_cons (s1_set 5 sc__law_bag.nd (se_mod (se_sub (se_var 1) se_int) (se_len G.m_len (sa_cons (se_sub (se_var 4) se_int) sa_nil))))
 (ss_cons (s1_if (st_w (sw_and (st_eq (uu hr) (se_mod (se_sub (se_var 1) se_int) se_int) se_int) (sw_and1 (st_gt (se_len G.m_len (sa_cons (se_sub (se_var 4) se_int) sa_nil)) se_int))))
 (ss_one (s1_asg (se_add (se_slice (se_sub (se_var 4) se_int) so_none (so_some (se_var 5))) (se_slice (se_sub (se_var 4) se_int) (so_some (se_add (se_var 5) se_int)) so_none)) (sg_sub (se_var 4) se_int)))
 ss_nil)
 (ss_cons (s1_if (st_eq (uu hr) (se_mod (se_sub (se_var 1) se_int) se_int) se_int)
 (ss_cons (s1_set 6 sc__law_bag.nd (se_sub (se_call F__law_drawn tk (hr.mono (by decide)) (sa_cons (se_var 0) (sa_cons se_int (sa_cons se_int (sa_cons (se_sub (se_var 4) se_int) sa_nil))))) se_int))
 (ss_one (s1_if (st_w (sw_and (st_notIn (uu1 hr) (se_var 6) (se_sub (se_var 4) se_int)) (sw_and1 (st_lt (se_len G.m_len (sa_cons (se_sub (se_var 4) se_int) sa_nil)) se_int))))
 (ss_one (s1_asg (se_sortI G.m_sorted (sa_cons (se_add (se_sub (se_var 4) se_int) (se_lst (sa_cons (se_var 6) sa_nil))) sa_nil)) (sg_sub (se_var 4) se_int)))
 ss_nil)))
 ss_nil)
 (ss_one (s1_ret (se_var 4))))))))))))
abbrev s__law_told : Stmt := top 29
abbrev N__law_told : List Str := ["bag", "e", "told"]
abbrev P__law_told : List Str := ["bag"]
theorem sc__law_told : FnScope N__law_told P__law_told (defScope s__law_told) := ⟨rfl, rfl, rfl, by decide +kernel, rfl, by decide +kernel, by decide +kernel⟩
def tb__law_told : DS :=
 (sSeq (sTry xtb (sSet 2 (dCall ct_closed 1 (aCons (dVar 0) aNil)))
 [(.cls "TooLarge", some 1, fun a c dd => (sSeq (sIf (dOr (dTru (dCB (nIsE xkt a c dd) (aCons (dVar 1) (aCons (dC (.cls "Undefined")) aNil)))) (dOr (dNot (dTru (dCB (nIsE xkt a c dd) (aCons (dVar 1) (aCons (dC (.ty "ValueError")) aNil))))) (dNot (dTru (dCB (nIsE xkt a c dd) (aCons (dVar 1) (aCons (dC (.cls "MiddleError")) aNil)))))))
 (sRet (dLst (aCons (dC (.int 2)) aNil)))
 sNil)
 (sSeq (sIf (dOr (dNot (dTru (dCB (nIsi kcs) (aCons (dExF a c dd "what" (dVar 1)) (aCons (dC (.ty "str")) aNil))))) (dTst (dOp dNe (dExF a c dd "what" (dVar 1)) (dC (.str "words")))))
 (sRet (dLst (aCons (dC (.int 2)) aNil)))
 sNil)
 (sRet (dLst (aCons (dC (.int 1)) aNil)))))),
 (.cls "MiddleError", none, fun a c dd => (sRet (dLst (aCons (dC (.int 2)) aNil))))])
 (sRet (dLst (aCons (dC (.int 0)) (aCons (dVar 2) aNil)))))
theorem bd__law_told {P : Program} {w : World} {K : PySem.W.Frag} {mg : Str → Option Value} {base : Heap} (G : Gm K mg) (F_closed : FnC P w K mg base 7 "closed" 1 ct_closed) : BodyC P w K mg base N__law_told "_law_told" (defScope s__law_told) (defBody s__law_told) 7 tb__law_told :=
 fun f cd A outer s H E hr tk hp =>
 (ss_cons (s1_try G.exm sc__law_told.nd tk (fun W pn xe tk hp => (ss_one (s1_set 2 sc__law_told.nd (se_call F_closed tk (hr.mono (by decide)) (sa_cons (se_var 0) sa_nil)))))
 (ClD.named (i := 1) rfl rfl ⟨rfl, by decide, .inl G.g_TooLarge⟩ (fun a oe c dd pn hcs hk hz hf hot => (ss_cons (s1_if (st_w (sw_or (st_tru (se_isE G.kitE hk hz hf G.m_isinstance (sa_cons (se_var 1) (sa_cons (se_cls G.g_Undefined) sa_nil)))) (sw_or (st_not (st_tru (se_isE G.kitE hk hz hf G.m_isinstance (sa_cons (se_var 1) (sa_cons (se_ty rfl G.m_ValueError (by decide +kernel)) sa_nil))))) (sw_or1 (st_not (st_tru (se_isE G.kitE hk hz hf G.m_isinstance (sa_cons (se_var 1) (sa_cons (se_cls G.g_MiddleError) sa_nil)))))))))
 (ss_one (s1_ret (se_lst (sa_cons se_int sa_nil))))
 ss_nil)
 (ss_cons (s1_if (st_w (sw_or (st_not (st_tru (se_isi G.kit G.m_isinstance (sa_cons (se_exf G.n_what hcs hk hz hf (se_var 1)) (sa_cons (se_ty rfl G.m_str (by decide +kernel)) sa_nil))))) (sw_or1 (st_ne (uuM hr) (se_exf G.n_what hcs hk hz hf (se_var 1)) se_str))))
 (ss_one (s1_ret (se_lst (sa_cons se_int sa_nil))))
 ss_nil)
 (ss_one (s1_ret (se_lst (sa_cons se_int sa_nil)))))))
 (ClD.bare ⟨rfl, by decide, .inl G.g_MiddleError⟩ (fun a oe c dd pn hcs hk hz hf hot => (ss_one (s1_ret (se_lst (sa_cons se_int sa_nil)))))
 ClD.nil)))
 (ss_one (s1_ret (se_lst (sa_cons se_int (sa_cons (se_var 2) sa_nil))))))
abbrev s__law_plain : Stmt := top 30
abbrev N__law_plain : List Str := ["bag", "length", "due", "k", "word", "letter"]
abbrev P__law_plain : List Str := ["bag", "length", "due"]
theorem sc__law_plain : FnScope N__law_plain P__law_plain (defScope s__law_plain) := ⟨rfl, rfl, rfl, by decide +kernel, rfl, by decide +kernel, by decide +kernel⟩
def tb__law_plain : DS :=
 (sSeq (sIf (dOr (dNot (dTru (dCB (nIsi kcs) (aCons (dVar 0) (aCons (dC (.cls "Words")) aNil))))) (dOr (dTru (dCB (nIsi kcs) (aCons (dFldC fc_length "length" (dVar 0)) (aCons (dC (.ty "bool")) aNil)))) (dNot (dTru (dCB (nIsi kcs) (aCons (dFldC fc_length "length" (dVar 0)) (aCons (dC (.ty "int")) aNil)))))))
 (sRet (dC (.bl false)))
 sNil)
 (sSeq (sIf (dOr (dTst (dOp dNe (dFldC fc_length "length" (dVar 0)) (dVar 1))) (dOr (dNot (dTru (dCB (nIsi kcs) (aCons (dFldC fc_words "words" (dVar 0)) (aCons (dC (.ty "tuple")) aNil))))) (dTst (dOp dNe (dCB nLen (aCons (dFldC fc_words "words" (dVar 0)) aNil)) (dCB nLen (aCons (dVar 2) aNil))))))
 (sRet (dC (.bl false)))
 sNil)
 (sSeq (sFor (iR1 (aCons (dCB nLen (aCons (dVar 2) aNil)) aNil)) (tgN 3)
 (sSeq (sSet 4 (dOp dIx (dFldC fc_words "words" (dVar 0)) (dVar 3)))
 (sSeq (sIf (dOr (dNot (dTru (dCB (nIsi kcs) (aCons (dVar 4) (aCons (dC (.ty "tuple")) aNil))))) (dTst (dOp dNe (dCB nLen (aCons (dVar 4) aNil)) (dVar 1))))
 (sRet (dC (.bl false)))
 sNil)
 (sSeq (sFor (iT (dVar 4)) (tgN 5)
 (sIf (dOr (dTru (dCB (nIsi kcs) (aCons (dVar 5) (aCons (dC (.ty "bool")) aNil)))) (dNot (dTru (dCB (nIsi kcs) (aCons (dVar 5) (aCons (dC (.ty "int")) aNil))))))
 (sRet (dC (.bl false)))
 sNil))
 (sIf (dTst (dOp dNe (dVar 4) (dCall ct__law_word 2 (aCons (dOp dIx (dVar 2) (dVar 3)) (aCons (dVar 1) aNil)))))
 (sRet (dC (.bl false)))
 sNil)))))
 (sRet (dC (.bl true))))))
theorem bd__law_plain {P : Program} {w : World} {K : PySem.W.Frag} {mg : Str → Option Value} {base : Heap} (G : Gm K mg) (F__law_word : FnC P w K mg base 1 "_law_word" 2 ct__law_word) : BodyC P w K mg base N__law_plain "_law_plain" (defScope s__law_plain) (defBody s__law_plain) 1 tb__law_plain :=
 fun f cd A outer s H E hr tk hp =>
 (ss_cons (s1_if (st_w (sw_or (st_not (st_tru (se_isi G.kit G.m_isinstance (sa_cons (se_var 0) (sa_cons (se_cls G.g_Words) sa_nil))))) (sw_or (st_tru (se_isi G.kit G.m_isinstance (sa_cons (se_fld (cs := fc_length) G.f_length (se_var 0)) (sa_cons (se_ty rfl G.m_bool (by decide +kernel)) sa_nil)))) (sw_or1 (st_not (st_tru (se_isi G.kit G.m_isinstance (sa_cons (se_fld (cs := fc_length) G.f_length (se_var 0)) (sa_cons (se_ty rfl G.m_int (by decide +kernel)) sa_nil)))))))))
 (ss_one (s1_ret se_bl))
 ss_nil)
 (ss_cons (s1_if (st_w (sw_or (st_ne (uu hr) (se_fld (cs := fc_length) G.f_length (se_var 0)) (se_var 1)) (sw_or (st_not (st_tru (se_isi G.kit G.m_isinstance (sa_cons (se_fld (cs := fc_words) G.f_words (se_var 0)) (sa_cons (se_ty rfl G.m_tuple (by decide +kernel)) sa_nil))))) (sw_or1 (st_ne (uu hr) (se_len G.m_len (sa_cons (se_fld (cs := fc_words) G.f_words (se_var 0)) sa_nil)) (se_len G.m_len (sa_cons (se_var 2) sa_nil)))))))
 (ss_one (s1_ret se_bl))
 ss_nil)
 (ss_cons (s1_for hp rfl (si_range1 G.m_range (sa_cons (se_len G.m_len (sa_cons (se_var 2) sa_nil)) sa_nil)) (sg_name sc__law_plain.nd)
 (ss_cons (s1_set 4 sc__law_plain.nd (se_sub (se_fld (cs := fc_words) G.f_words (se_var 0)) (se_var 3)))
 (ss_cons (s1_if (st_w (sw_or (st_not (st_tru (se_isi G.kit G.m_isinstance (sa_cons (se_var 4) (sa_cons (se_ty rfl G.m_tuple (by decide +kernel)) sa_nil))))) (sw_or1 (st_ne (uu hr) (se_len G.m_len (sa_cons (se_var 4) sa_nil)) (se_var 1)))))
 (ss_one (s1_ret se_bl))
 ss_nil)
 (ss_cons (s1_for hp rfl (si_tup (se_var 4)) (sg_name sc__law_plain.nd)
 (ss_one (s1_if (st_w (sw_or (st_tru (se_isi G.kit G.m_isinstance (sa_cons (se_var 5) (sa_cons (se_ty rfl G.m_bool (by decide +kernel)) sa_nil)))) (sw_or1 (st_not (st_tru (se_isi G.kit G.m_isinstance (sa_cons (se_var 5) (sa_cons (se_ty rfl G.m_int (by decide +kernel)) sa_nil))))))))
 (ss_one (s1_ret se_bl))
 ss_nil)))
 (ss_one (s1_if (st_ne (uu hr) (se_var 4) (se_call F__law_word tk (hr.mono (by decide)) (sa_cons (se_sub (se_var 2) (se_var 3)) (sa_cons (se_var 1) sa_nil))))
 (ss_one (s1_ret se_bl))
 ss_nil))))))
 (ss_one (s1_ret se_bl)))))
abbrev s__law_right : Stmt := top 31
abbrev N__law_right : List Str := ["bag", "length", "due", "told"]
abbrev P__law_right : List Str := ["bag", "length", "due"]
theorem sc__law_right : FnScope N__law_right P__law_right (defScope s__law_right) := ⟨rfl, rfl, rfl, by decide +kernel, rfl, by decide +kernel, by decide +kernel⟩
def tb__law_right : DS :=
 (sSeq (sSet 3 (dCall ct__law_told 1 (aCons (dVar 0) aNil)))
 (sSeq (sIf (dTst (dOp oGt (dCB nLen (aCons (dVar 2) aNil)) (dC (.int 40))))
 (sRet (dOp dEq (dVar 3) (dLst (aCons (dC (.int 1)) aNil))))
 sNil)
 (sRet (dAndV (dOp dEq (dOp dIx (dVar 3) (dC (.int 0))) (dC (.int 0))) (dCall ct__law_plain 3 (aCons (dOp dIx (dVar 3) (dC (.int 1))) (aCons (dVar 1) (aCons (dVar 2) aNil))))))))
theorem bd__law_right {P : Program} {w : World} {K : PySem.W.Frag} {mg : Str → Option Value} {base : Heap} (G : Gm K mg) (F__law_plain : FnC P w K mg base 2 "_law_plain" 3 ct__law_plain) (F__law_told : FnC P w K mg base 8 "_law_told" 1 ct__law_told) : BodyC P w K mg base N__law_right "_law_right" (defScope s__law_right) (defBody s__law_right) 8 tb__law_right :=
 fun f cd A outer s H E hr tk hp =>
 (ss_cons (s1_set 3 sc__law_right.nd (se_call F__law_told tk (hr.mono (by decide)) (sa_cons (se_var 0) sa_nil)))
 (ss_cons (s1_if (st_gt (se_len G.m_len (sa_cons (se_var 2) sa_nil)) se_int)
 (ss_one (s1_ret (se_eq (uu hr) (se_var 3) (se_lst (sa_cons se_int sa_nil)))))
 ss_nil)
 (ss_one (s1_ret (se_and (se_eq (uu hr) (se_sub (se_var 3) se_int) se_int) (se_one (se_call F__law_plain tk (hr.mono (by decide)) (sa_cons (se_sub (se_var 3) se_int) (sa_cons (se_var 1) (sa_cons (se_var 2) sa_nil))))))))))
def tb__law_asked_A3 : DS :=
 (sSeq (sIf (dTst (dOp oGt (dCB nLen (aCons (dVar 3) aNil)) (dC (.int 40))))
 (sRet (dC (.bl true)))
 sNil)
 (sSeq (sSet 7 (dMake "Words" ct_Words_init 3 (aCons (dVar 1) (aCons (dCB nTup (aCons (dLc (iS (dVar 3)) (tgN 5) dYes (dCall ct__law_word 2 (aCons (dVar 5) (aCons (dVar 1) aNil))) [5]) aNil)) aNil))))
 (sRet (dAndV (dCall ct__law_right 3 (aCons (dVar 7) (aCons (dVar 1) (aCons (dVar 3) aNil)))) (dCall ct__law_right 3 (aCons (dCallK ct_closed 1 1 [0] (aCons (dVar 4) aNil)) (aCons (dVar 1) (aCons (dVar 3) aNil))))))))
def tb__law_asked_A2 : DS :=
 (sSeq (sSet 6 (dMake "Words" ct_Words_init 3 (aCons (dVar 1) (aCons (dLst (aCons (dCall ct__law_word 2 (aCons (dOp dIx (dVar 2) (dNeg (dC (.int 1)))) (aCons (dVar 1) aNil))) aNil)) aNil))))
 (sSeq (sIf (dOr (dNot (dTru (dCall ct__law_right 3 (aCons (dVar 4) (aCons (dVar 1) (aCons (dVar 3) aNil)))))) (dNot (dTru (dCall ct__law_right 3 (aCons (dVar 6) (aCons (dVar 1) (aCons (dLst (aCons (dOp dIx (dVar 2) (dNeg (dC (.int 1)))) aNil)) aNil)))))))
 (sRet (dC (.bl false)))
 sNil)
 (sSeq (sIf (dOr (dNot (dTru (dCall ct__law_right 3 (aCons (dVar 4) (aCons (dVar 1) (aCons (dVar 3) aNil)))))) (dNot (dTru (dCall ct__law_plain 3 (aCons (dVar 4) (aCons (dVar 1) (aCons (dVar 2) aNil)))))))
 (sRet (dC (.bl false)))
 sNil)
 tb__law_asked_A3)))
def tb__law_asked_A1 : DS :=
 (sSeq (sSet 3 (dCall ct__law_closure 2 (aCons (dVar 2) (aCons (dC (.int 40)) aNil))))
 (sSeq (sSet 4 (dMake "Words" ct_Words_init 3 (aCons (dVar 1) (aCons (dLc (iS (dVar 2)) (tgN 5) dYes (dCall ct__law_word 2 (aCons (dVar 5) (aCons (dVar 1) aNil))) [5]) aNil))))
 tb__law_asked_A2))
abbrev s__law_asked : Stmt := top 32
abbrev N__law_asked : List Str := ["script", "length", "row", "due", "bag", "number", "other", "whole"]
abbrev P__law_asked : List Str := ["script"]
theorem sc__law_asked : FnScope N__law_asked P__law_asked (defScope s__law_asked) := ⟨rfl, rfl, rfl, by decide +kernel, rfl, by decide +kernel, by decide +kernel⟩
def tb__law_asked : DS :=
 (sSeq (sAsg (dCall ct__law_bag 1 (aCons (dVar 0) aNil)) (tgLst 2 (tgsCons (tgN 1) (tgsCons (tgN 2) tgsNil))))
 tb__law_asked_A1)
theorem bd__law_asked {P : Program} {w : World} {K : PySem.W.Frag} {mg : Str → Option Value} {base : Heap} (G : Gm K mg) (M_Words : MkC P w K mg base 5 "Words" 3 ct_Words_init) (F__law_bag : FnC P w K mg base 4 "_law_bag" 1 ct__law_bag) (F__law_closure : FnC P w K mg base 2 "_law_closure" 2 ct__law_closure) (F__law_plain : FnC P w K mg base 2 "_law_plain" 3 ct__law_plain) (F__law_right : FnC P w K mg base 9 "_law_right" 3 ct__law_right) (F__law_word : FnC P w K mg base 1 "_law_word" 2 ct__law_word) (K_closed : FnK P w K mg base 7 "closed" 1 ["words"] [0] ct_closed) : BodyC P w K mg base N__law_asked "_law_asked" (defScope s__law_asked) (defBody s__law_asked) 9 tb__law_asked :=
 fun f cd A outer s H E hr tk hp =>
 (ss_cons (s1_asg (se_call F__law_bag tk (hr.mono (by decide)) (sa_cons (se_var 0) sa_nil)) (sg_lst rfl (sgs_cons (sg_name sc__law_asked.nd) (sgs_cons (sg_name sc__law_asked.nd) (sgs_nil (T := []))))))
 (ss_cons (s1_set 3 sc__law_asked.nd (se_call F__law_closure tk (hr.mono (by decide)) (sa_cons (se_var 2) (sa_cons se_int sa_nil))))
 (ss_cons (s1_set 4 sc__law_asked.nd (se_make M_Words tk (hr.mono (by decide)) (sa_cons (se_var 1) (sa_cons (se_lc (own := [("number", 5)]) rfl sc__law_asked.nd (si_any (se_var 2)) (by show BlkOk N__law_asked (defScope s__law_asked) _ [("number", 5)]; exact ⟨rfl, by decide +kernel, by decide +kernel, by decide +kernel, by decide +kernel⟩) (fun _ _ _ _ _ => (sg_name sc__law_asked.nd)) (fun _ _ _ _ _ => sp_nil) (fun _ _ _ _ _ => (se_call F__law_word takes00 (hr.mono (by decide)) (sa_cons (se_var 5) (sa_cons (se_var 1) sa_nil))))) sa_nil))))
 (ss_cons (s1_set 6 sc__law_asked.nd (se_make M_Words tk (hr.mono (by decide)) (sa_cons (se_var 1) (sa_cons (se_lst (sa_cons (se_call F__law_word tk (hr.mono (by decide)) (sa_cons (se_sub (se_var 2) (se_neg se_int)) (sa_cons (se_var 1) sa_nil))) sa_nil)) sa_nil))))
 (ss_cons (s1_if (st_w (sw_or (st_not (st_tru (se_call F__law_right tk (hr.mono (by decide)) (sa_cons (se_var 4) (sa_cons (se_var 1) (sa_cons (se_var 3) sa_nil)))))) (sw_or1 (st_not (st_tru (se_call F__law_right tk (hr.mono (by decide)) (sa_cons (se_var 6) (sa_cons (se_var 1) (sa_cons (se_lst (sa_cons (se_sub (se_var 2) (se_neg se_int)) sa_nil)) sa_nil)))))))))
 (ss_one (s1_ret se_bl))
 ss_nil)
 (ss_cons (s1_if (st_w (sw_or (st_not (st_tru (se_call F__law_right tk (hr.mono (by decide)) (sa_cons (se_var 4) (sa_cons (se_var 1) (sa_cons (se_var 3) sa_nil)))))) (sw_or1 (st_not (st_tru (se_call F__law_plain tk (hr.mono (by decide)) (sa_cons (se_var 4) (sa_cons (se_var 1) (sa_cons (se_var 2) sa_nil)))))))))
 (ss_one (s1_ret se_bl))
 ss_nil)
 (ss_cons (s1_if (st_gt (se_len G.m_len (sa_cons (se_var 3) sa_nil)) se_int)
 (ss_one (s1_ret se_bl))
 ss_nil)
 (ss_cons (s1_set 7 sc__law_asked.nd (se_make M_Words tk (hr.mono (by decide)) (sa_cons (se_var 1) (sa_cons (se_tuple G.m_tuple (sa_cons (se_lc (own := [("number", 5)]) rfl sc__law_asked.nd (si_any (se_var 3)) (by show BlkOk N__law_asked (defScope s__law_asked) _ [("number", 5)]; exact ⟨rfl, by decide +kernel, by decide +kernel, by decide +kernel, by decide +kernel⟩) (fun _ _ _ _ _ => (sg_name sc__law_asked.nd)) (fun _ _ _ _ _ => sp_nil) (fun _ _ _ _ _ => (se_call F__law_word takes00 (hr.mono (by decide)) (sa_cons (se_var 5) (sa_cons (se_var 1) sa_nil))))) sa_nil)) sa_nil))))
 (ss_one (s1_ret (se_and (se_call F__law_right tk (hr.mono (by decide)) (sa_cons (se_var 7) (sa_cons (se_var 1) (sa_cons (se_var 3) sa_nil)))) (se_one (se_call F__law_right tk (hr.mono (by decide)) (sa_cons (se_callK (ks := ["words"]) K_closed tk (hr.mono (by decide)) (sk_cons (se_var 4) sk_nil)) (sa_cons (se_var 1) (sa_cons (se_var 3) sa_nil))))))))))))))))
abbrev s_law : Stmt := top 33
abbrev N_law : List Str := ["script"]
abbrev P_law : List Str := ["script"]
theorem sc_law : FnScope N_law P_law (defScope s_law) := ⟨rfl, rfl, rfl, by decide +kernel, rfl, by decide +kernel, by decide +kernel⟩
def tb_law : DS :=
 (sNox (sRet (dCall ct__law_asked 1 (aCons (dVar 0) aNil))))
theorem bd_law {P : Program} {w : World} {K : PySem.W.Frag} {mg : Str → Option Value} {base : Heap} (G : Gm K mg) (F__law_asked : FnC P w K mg base 10 "_law_asked" 1 ct__law_asked) : BodyC P w K mg base N_law "law" (defScope s_law) (defBody s_law) 10 tb_law :=
 fun f cd A outer s H E hr tk hp =>
 (ss_one (s1_try0 (ss_one (s1_ret (se_call F__law_asked takes00 (hr.mono (by decide)) (sa_cons (se_var 0) sa_nil))))))
end L2.MW.K34

namespace L2.MW.K34
open PySem PySem.Spec PyProof.Rows L2 L2.MW
/-! ### numbers and letters -/
theorem bitsN_succ (L n : Nat) : bitsN (L + 1) n = n.testBit L :: bitsN L n := by
  unfold bitsN
  rw [List.range_succ_eq_map, List.map_cons, List.map_map]
  refine congr (congrArg List.cons (by simp)) (List.map_congr_left fun k hk => ?_)
  show n.testBit (L + 1 - 1 - (k + 1)) = n.testBit (L - 1 - k)
  congr 1
  omega
theorem bitsN_len {L n : Nat} : (bitsN L n).length = L := by unfold bitsN; rw [List.length_map, List.length_range]
theorem bitsN_at {L n k : Nat} (hk : k < L) : (bitsN L n)[k]? = some (n.testBit (L - 1 - k)) := by
  unfold bitsN
  rw [List.getElem?_map, List.getElem?_range hk]; rfl
theorem mod_succ (L n : Nat) : n % 2 ^ (L + 1) = (n.testBit L).toNat * 2 ^ L + n % 2 ^ L := by
  rw [Nat.testBit_eq_decide_div_mod_eq, Nat.pow_succ, Nat.mod_mul]
  have : n / 2 ^ L % 2 < 2 := Nat.mod_lt _ (by decide)
  rcases (show n / 2 ^ L % 2 = 0 ∨ n / 2 ^ L % 2 = 1 by omega) with e | e <;> rw [e] <;> simp [Nat.add_comm]
theorem lt_cons_eq {x : D} {l m : List D} (a : alkD x x = true) (e : deq x x = true) : ltD (.tup (x :: l)) (.tup (x :: m)) = ltD (.tup l) (.tup m) := by
  show PySem.W.dataLt (.tuple (toP x :: toPs l)) (.tuple (toP x :: toPs m)) = PySem.W.dataLt (.tuple (toPs l)) (.tuple (toPs m))
  rw [PySem.W.dataLt_tuple, PySem.W.dataLt_tuple]
  exact PySem.W.dataLt_all_yes a e
theorem lt_cons_lt {x y : D} {l m : List D} (a : alkD x y = true) (e : deq x y = false) (h : ltD x y = true) : ltD (.tup (x :: l)) (.tup (y :: m)) = true := by
  show PySem.W.dataLt (.tuple (toP x :: toPs l)) (.tuple (toP y :: toPs m)) = true
  rw [PySem.W.dataLt_tuple]
  exact (PySem.W.dataLt_all_no a e).trans h
theorem bits_lt : ∀ (L n m : Nat), n % 2 ^ L < m % 2 ^ L → ltD (wrd (bitsN L n)) (wrd (bitsN L m)) = true
  | 0, n, m, h => by simp [Nat.mod_one] at h
  | L + 1, n, m, h => by
    rw [mod_succ, mod_succ] at h
    unfold wrd
    rw [bitsN_succ, bitsN_succ, List.map_cons, List.map_cons]
    have hn := Nat.mod_lt n (Nat.two_pow_pos L)
    have hm := Nat.mod_lt m (Nat.two_pow_pos L)
    cases bn : n.testBit L <;> cases bm : m.testBit L <;> rw [bn, bm] at h <;> simp at h
    · rw [lt_cons_eq (by decide +kernel) (by decide +kernel)]
      exact bits_lt L n m h
    · exact lt_cons_lt (by decide +kernel) (by decide +kernel) (by decide +kernel)
    · omega
    · rw [lt_cons_eq (by decide +kernel) (by decide +kernel)]
      exact bits_lt L n m h
theorem mj_mj (a b c : Nat) : ((a &&& b) ||| (a &&& c)) ||| (b &&& c) = mj a b c := by
  refine Nat.eq_of_testBit_eq fun i => ?_
  unfold mj
  simp only [Nat.testBit_or, Nat.testBit_and]
  cases a.testBit i <;> cases b.testBit i <;> cases c.testBit i <;> rfl
theorem mj_lt {L a b c : Nat} (ha : a < 2 ^ L) (hb : b < 2 ^ L) (hc : c < 2 ^ L) : mj a b c < 2 ^ L :=
  Nat.or_lt_two_pow (Nat.lt_of_le_of_lt Nat.and_le_left ha) (Nat.lt_of_le_of_lt Nat.and_le_right hc)
theorem rd_law_cell (ds : List D) (h : DHp) (X : DX) (Q : DK) (hds : ds.length = 2) (c : ct__law_cell ds h X Q) : tb__law_cell (endsD h X Q) (startD N__law_cell.length ds) h := by
  obtain ⟨ns, k, rfl, hk, hl, q⟩ := c
  simp only [tb__law_cell, startD, sSeq, sNil, sIf, sRet, sRetN, sSet, sAsg, sExpr, sNever, sFor, sNox, sBrk, sCont, sFldD, sAug, sAugS, dVar, dC, dOp, dI0, dII, dNeg, dInv, dAndV, dOrV, dNotV, dTst, dTru, dAnd, dOr, dNot, dIfE, dChn, dCall, dCallK, dMake, aNil, aCons, dTup, dLst, dLstH, dFldC, dCB, dBM, tgN, tgSub, iL, iT, iR1, iR2, DEnds.xx, dLc, dLcH, dYes, dSl, oNon, oSome, nI2, nTup, nLst, nLstH, mApp, wipeD, dIn, dIsN, dNotN, dAddH, dMulH, iS, iEnS, iZipD, iZip3D, dIsB, dJoin, dRgT, dRgL, dRgH, dDNew, dDNewT, sDPutD, tru_bl, tru_int, add_int, add_tup, mul_int, len_tup, len_lst, len_fz, ne_int, eq_int, ne_bl, eq_bl, int_int, int_bl, ty_end, asL_lst, asL_fz, asS_tup, asS_lst, asS_fz, tgs_cons_eq, tgs_nil_eq, tg_tup_eq, tg_lst_eq, at_end, set_end, asS_end, asL_end, at_pre, set_pre, ty_pre, dTupRev, asS_tup, asS_lst, rz_end, rz_lst, mulT_tup, min3_eq, List.getElem?_cons_zero, List.getElem?_cons_succ, Option.some.injEq, exists_eq_left', exists_eq_left, exists_and_left, exists_and_right, and_assoc, D.int.injEq, D.bl.injEq, D.str.injEq, D.tup.injEq, D.lst.injEq, D.fz.injEq, D.ref.injEq, HB.lst.injEq, List.cons.injEq, and_true, true_and, List.set_cons_zero, List.set_cons_succ, List.map_cons, List.map_nil, List.length_cons, List.length_nil, Nat.reduceAdd, Nat.reduceSub, Nat.sub_self, Nat.zero_add, List.replicate_zero, List.replicate_succ, List.append_nil, List.cons_append, List.nil_append, decide_eq_true_eq, decide_eq_false_iff_not, Bool.not_eq_true', Bool.not_eq_false', Bool.true_eq_false, Bool.false_eq_true, false_implies, forall_const, true_implies, reduceCtorEq, and_false, false_and, Bool.not_true, Bool.not_false, if_true, if_false]
  refine ⟨fun hlt => ?_, fun _ => rt_keep (q 0)⟩
  obtain ⟨j, rfl⟩ := Int.eq_ofNat_of_zero_le hk
  have hj : j < ns.length := by rw [List.length_map] at hlt; omega
  have e : atI (ns.map D.int) ((j : Nat) : Int) = some (.int ns[j]) := by
    refine atI_nat ?_
    rw [List.getElem?_map, List.getElem?_eq_getElem hj]; rfl
  refine ix_of rfl e ?_
  simp only [sSeq, sNil, sIf, sRet, sRetN, sSet, sAsg, sExpr, sNever, sFor, sNox, sBrk, sCont, sFldD, sAug, sAugS, dVar, dC, dOp, dI0, dII, dNeg, dInv, dAndV, dOrV, dNotV, dTst, dTru, dAnd, dOr, dNot, dIfE, dChn, dCall, dCallK, dMake, aNil, aCons, dTup, dLst, dLstH, dFldC, dCB, dBM, tgN, tgSub, iL, iT, iR1, iR2, DEnds.xx, dLc, dLcH, dYes, dSl, oNon, oSome, nI2, nTup, nLst, nLstH, mApp, wipeD, dIn, dIsN, dNotN, dAddH, dMulH, iS, iEnS, iZipD, iZip3D, dIsB, dJoin, dRgT, dRgL, dRgH, dDNew, dDNewT, sDPutD, tru_bl, tru_int, add_int, add_tup, mul_int, len_tup, len_lst, len_fz, ne_int, eq_int, ne_bl, eq_bl, int_int, int_bl, ty_end, asL_lst, asL_fz, asS_tup, asS_lst, asS_fz, tgs_cons_eq, tgs_nil_eq, tg_tup_eq, tg_lst_eq, at_end, set_end, asS_end, asL_end, at_pre, set_pre, ty_pre, dTupRev, asS_tup, asS_lst, rz_end, rz_lst, mulT_tup, min3_eq, List.getElem?_cons_zero, List.getElem?_cons_succ, Option.some.injEq, exists_eq_left', exists_eq_left, exists_and_left, exists_and_right, and_assoc, D.int.injEq, D.bl.injEq, D.str.injEq, D.tup.injEq, D.lst.injEq, D.fz.injEq, D.ref.injEq, HB.lst.injEq, List.cons.injEq, and_true, true_and, List.set_cons_zero, List.set_cons_succ, List.map_cons, List.map_nil, List.length_cons, List.length_nil, Nat.reduceAdd, Nat.reduceSub, Nat.sub_self, Nat.zero_add, List.replicate_zero, List.replicate_succ, List.append_nil, List.cons_append, List.nil_append, decide_eq_true_eq, decide_eq_false_iff_not, Bool.not_eq_true', Bool.not_eq_false', Bool.true_eq_false, Bool.false_eq_true, false_implies, forall_const, true_implies, reduceCtorEq, and_false, false_and, Bool.not_true, Bool.not_false, if_true, if_false]
  exact rt_keep (q _)
theorem nats_appI {r : List Nat} {v : Int} (h : 0 ≤ v) : nats r ++ [.int v] = nats (r ++ [v.toNat]) := by
  unfold nats
  rw [List.map_append]
  show _ = _ ++ [D.int ((v.toNat : Nat) : Int)]
  rw [Int.toNat_of_nonneg h]
structure RowI (m l : Nat) (r : List Nat) (i : Nat) : Prop where
  len : r.length = i
  bd : ∀ x ∈ r, x < l
theorem RowI.app {m l : Nat} {r : List Nat} {i : Nat} (R : RowI m l r i) {v : Int} (h0 : 0 ≤ v) (h1 : v < l) : RowI m l (r ++ [v.toNat]) (i + 1) := by
  refine ⟨by rw [List.length_append, R.len]; rfl, fun x hx => ?_⟩
  rcases List.mem_append.mp hx with hx | hx
  · exact R.bd x hx
  · rw [List.mem_singleton.mp hx]; omega
theorem rd_law_row (ds : List D) (h : DHp) (X : DX) (Q : DK) (hds : ds.length = 4) (c : ct__law_row ds h X Q) : tb__law_row (endsD h X Q) (startD N__law_row.length ds) h := by
  obtain ⟨ns, a, m, l, rfl, hl, hm, l0, l1, q⟩ := c
  have cp : CPow 10 18 := ⟨by decide, by decide, by decide⟩
  simp only [tb__law_row, startD, sSeq, sNil, sIf, sRet, sRetN, sSet, sAsg, sExpr, sNever, sFor, sNox, sBrk, sCont, sFldD, sAug, sAugS, dVar, dC, dOp, dI0, dII, dNeg, dInv, dAndV, dOrV, dNotV, dTst, dTru, dAnd, dOr, dNot, dIfE, dChn, dCall, dCallK, dMake, aNil, aCons, dTup, dLst, dLstH, dFldC, dCB, dBM, tgN, tgSub, iL, iT, iR1, iR2, DEnds.xx, dLc, dLcH, dYes, dSl, oNon, oSome, nI2, nTup, nLst, nLstH, mApp, wipeD, dIn, dIsN, dNotN, dAddH, dMulH, iS, iEnS, iZipD, iZip3D, dIsB, dJoin, dRgT, dRgL, dRgH, dDNew, dDNewT, sDPutD, tru_bl, tru_int, add_int, add_tup, mul_int, len_tup, len_lst, len_fz, ne_int, eq_int, ne_bl, eq_bl, int_int, int_bl, ty_end, asL_lst, asL_fz, asS_tup, asS_lst, asS_fz, tgs_cons_eq, tgs_nil_eq, tg_tup_eq, tg_lst_eq, at_end, set_end, asS_end, asL_end, at_pre, set_pre, ty_pre, dTupRev, asS_tup, asS_lst, rz_end, rz_lst, mulT_tup, min3_eq, List.getElem?_cons_zero, List.getElem?_cons_succ, Option.some.injEq, exists_eq_left', exists_eq_left, exists_and_left, exists_and_right, and_assoc, D.int.injEq, D.bl.injEq, D.str.injEq, D.tup.injEq, D.lst.injEq, D.fz.injEq, D.ref.injEq, HB.lst.injEq, List.cons.injEq, and_true, true_and, List.set_cons_zero, List.set_cons_succ, List.map_cons, List.map_nil, List.length_cons, List.length_nil, Nat.reduceAdd, Nat.reduceSub, Nat.sub_self, Nat.zero_add, List.replicate_zero, List.replicate_succ, List.append_nil, List.cons_append, List.nil_append, decide_eq_true_eq, decide_eq_false_iff_not, Bool.not_eq_true', Bool.not_eq_false', Bool.true_eq_false, Bool.false_eq_true, false_implies, forall_const, true_implies, reduceCtorEq, and_false, false_and, Bool.not_true, Bool.not_false, if_true, if_false]
  refine ⟨small (by decide), ns, a, rfl, by omega, hl, fun left => ?_⟩
  have fin : ∀ {r : List Nat}, RowI m l r m → (endsD h X Q).rt (.ref h.length) (h ++ [.lst (nats r)]) := fun R => rt_lst Bds_nats (q _ R.len R.bd)
  simp only [tru_bl, tru_int, add_int, add_tup, mul_int, len_tup, len_lst, len_fz, ne_int, eq_int, ne_bl, eq_bl, int_int, int_bl, ty_end, asL_lst, asL_fz, asS_tup, asS_lst, asS_fz, tgs_cons_eq, tgs_nil_eq, tg_tup_eq, tg_lst_eq, at_end, set_end, asS_end, asL_end, at_pre, set_pre, ty_pre, dTupRev, asS_tup, asS_lst, rz_end, rz_lst, mulT_tup, min3_eq, List.getElem?_cons_zero, List.getElem?_cons_succ, Option.some.injEq, exists_eq_left', exists_eq_left, exists_and_left, exists_and_right, and_assoc, D.int.injEq, D.bl.injEq, D.str.injEq, D.tup.injEq, D.lst.injEq, D.fz.injEq, D.ref.injEq, HB.lst.injEq, List.cons.injEq, and_true, true_and, List.set_cons_zero, List.set_cons_succ, List.map_cons, List.map_nil, List.length_cons, List.length_nil, Nat.reduceAdd, Nat.reduceSub, Nat.sub_self, Nat.zero_add, List.replicate_zero, List.replicate_succ, List.append_nil, List.cons_append, List.nil_append, decide_eq_true_eq, decide_eq_false_iff_not, Bool.not_eq_true', Bool.not_eq_false', Bool.true_eq_false, Bool.false_eq_true, false_implies, forall_const, true_implies, reduceCtorEq, and_false, false_and, Bool.not_true, Bool.not_false, if_true, if_false]
  refine ⟨cp, fun _ => ⟨cp, rgOk (by omega), ?_⟩, fun _ => ⟨by decide, rgOk (by omega), ?_⟩⟩
  · rw [Int.toNat_natCast]
    refine forW_inv (rgD 0 m) (fun i σ h' => ∃ lf o r, RowI m l r i ∧ h' = h ++ [.lst (nats r)] ∧ σ = [some (.fz (ns.map D.int)), some (.int a), some (.int m), some (.int l), some (.ref h.length), some (.int lf), o]) ⟨_, _, [], ⟨rfl, fun x hx => nomatch hx⟩, rfl, rfl⟩ (fun _ _ _ _ _ => trivial) ?_ ?_
    · rintro i x σ h' N hx ⟨lf, o, r, R, rfl, rfl⟩ hN
      obtain ⟨rfl, hi⟩ := rg_get hx
      simp only [sSeq, sNil, sIf, sRet, sRetN, sSet, sAsg, sExpr, sNever, sFor, sNox, sBrk, sCont, sFldD, sAug, sAugS, dVar, dC, dOp, dI0, dII, dNeg, dInv, dAndV, dOrV, dNotV, dTst, dTru, dAnd, dOr, dNot, dIfE, dChn, dCall, dCallK, dMake, aNil, aCons, dTup, dLst, dLstH, dFldC, dCB, dBM, tgN, tgSub, iL, iT, iR1, iR2, DEnds.xx, dLc, dLcH, dYes, dSl, oNon, oSome, nI2, nTup, nLst, nLstH, mApp, wipeD, dIn, dIsN, dNotN, dAddH, dMulH, iS, iEnS, iZipD, iZip3D, dIsB, dJoin, dRgT, dRgL, dRgH, dDNew, dDNewT, sDPutD, tru_bl, tru_int, add_int, add_tup, mul_int, len_tup, len_lst, len_fz, ne_int, eq_int, ne_bl, eq_bl, int_int, int_bl, ty_end, asL_lst, asL_fz, asS_tup, asS_lst, asS_fz, tgs_cons_eq, tgs_nil_eq, tg_tup_eq, tg_lst_eq, at_end, set_end, asS_end, asL_end, at_pre, set_pre, ty_pre, dTupRev, asS_tup, asS_lst, rz_end, rz_lst, mulT_tup, min3_eq, List.getElem?_cons_zero, List.getElem?_cons_succ, Option.some.injEq, exists_eq_left', exists_eq_left, exists_and_left, exists_and_right, and_assoc, D.int.injEq, D.bl.injEq, D.str.injEq, D.tup.injEq, D.lst.injEq, D.fz.injEq, D.ref.injEq, HB.lst.injEq, List.cons.injEq, and_true, true_and, List.set_cons_zero, List.set_cons_succ, List.map_cons, List.map_nil, List.length_cons, List.length_nil, Nat.reduceAdd, Nat.reduceSub, Nat.sub_self, Nat.zero_add, List.replicate_zero, List.replicate_succ, List.append_nil, List.cons_append, List.nil_append, decide_eq_true_eq, decide_eq_false_iff_not, Bool.not_eq_true', Bool.not_eq_false', Bool.true_eq_false, Bool.false_eq_true, false_implies, forall_const, true_implies, reduceCtorEq, and_false, false_and, Bool.not_true, Bool.not_false, if_true, if_false]
      have z0 : 0 ≤ lf % (l : Int) := Int.emod_nonneg _ (by omega)
      have z1 : lf % (l : Int) < l := Int.emod_lt_of_pos _ (by omega)
      refine ⟨by omega, smallL (by rw [nats_len, R.len]; omega), ⟨by omega, by omega⟩, hN _ _ ⟨_, _, _, R.app z0 z1, ?_, rfl⟩⟩
      rw [nats_appI z0]
    · rintro σ h' ⟨lf, o, r, R, rfl, rfl⟩
      simp only [sSeq, sNil, sIf, sRet, sRetN, sSet, sAsg, sExpr, sNever, sFor, sNox, sBrk, sCont, sFldD, sAug, sAugS, dVar, dC, dOp, dI0, dII, dNeg, dInv, dAndV, dOrV, dNotV, dTst, dTru, dAnd, dOr, dNot, dIfE, dChn, dCall, dCallK, dMake, aNil, aCons, dTup, dLst, dLstH, dFldC, dCB, dBM, tgN, tgSub, iL, iT, iR1, iR2, DEnds.xx, dLc, dLcH, dYes, dSl, oNon, oSome, nI2, nTup, nLst, nLstH, mApp, wipeD, dIn, dIsN, dNotN, dAddH, dMulH, iS, iEnS, iZipD, iZip3D, dIsB, dJoin, dRgT, dRgL, dRgH, dDNew, dDNewT, sDPutD, tru_bl, tru_int, add_int, add_tup, mul_int, len_tup, len_lst, len_fz, ne_int, eq_int, ne_bl, eq_bl, int_int, int_bl, ty_end, asL_lst, asL_fz, asS_tup, asS_lst, asS_fz, tgs_cons_eq, tgs_nil_eq, tg_tup_eq, tg_lst_eq, at_end, set_end, asS_end, asL_end, at_pre, set_pre, ty_pre, dTupRev, asS_tup, asS_lst, rz_end, rz_lst, mulT_tup, min3_eq, List.getElem?_cons_zero, List.getElem?_cons_succ, Option.some.injEq, exists_eq_left', exists_eq_left, exists_and_left, exists_and_right, and_assoc, D.int.injEq, D.bl.injEq, D.str.injEq, D.tup.injEq, D.lst.injEq, D.fz.injEq, D.ref.injEq, HB.lst.injEq, List.cons.injEq, and_true, true_and, List.set_cons_zero, List.set_cons_succ, List.map_cons, List.map_nil, List.length_cons, List.length_nil, Nat.reduceAdd, Nat.reduceSub, Nat.sub_self, Nat.zero_add, List.replicate_zero, List.replicate_succ, List.append_nil, List.cons_append, List.nil_append, decide_eq_true_eq, decide_eq_false_iff_not, Bool.not_eq_true', Bool.not_eq_false', Bool.true_eq_false, Bool.false_eq_true, false_implies, forall_const, true_implies, reduceCtorEq, and_false, false_and, Bool.not_true, Bool.not_false, if_true, if_false]
      rw [rg_len] at R
      exact fin R
  · rw [Int.toNat_natCast]
    refine forW_inv (rgD 0 m) (fun i σ h' => ∃ lf o r, RowI m l r i ∧ h' = h ++ [.lst (nats r)] ∧ σ = [some (.fz (ns.map D.int)), some (.int a), some (.int m), some (.int l), some (.ref h.length), some (.int lf), o]) ⟨_, _, [], ⟨rfl, fun x hx => nomatch hx⟩, rfl, rfl⟩ (fun _ _ _ _ _ => trivial) ?_ ?_
    · rintro i x σ h' N hx ⟨lf, o, r, R, rfl, rfl⟩ hN
      obtain ⟨rfl, hi⟩ := rg_get hx
      simp only [sSeq, sNil, sIf, sRet, sRetN, sSet, sAsg, sExpr, sNever, sFor, sNox, sBrk, sCont, sFldD, sAug, sAugS, dVar, dC, dOp, dI0, dII, dNeg, dInv, dAndV, dOrV, dNotV, dTst, dTru, dAnd, dOr, dNot, dIfE, dChn, dCall, dCallK, dMake, aNil, aCons, dTup, dLst, dLstH, dFldC, dCB, dBM, tgN, tgSub, iL, iT, iR1, iR2, DEnds.xx, dLc, dLcH, dYes, dSl, oNon, oSome, nI2, nTup, nLst, nLstH, mApp, wipeD, dIn, dIsN, dNotN, dAddH, dMulH, iS, iEnS, iZipD, iZip3D, dIsB, dJoin, dRgT, dRgL, dRgH, dDNew, dDNewT, sDPutD, tru_bl, tru_int, add_int, add_tup, mul_int, len_tup, len_lst, len_fz, ne_int, eq_int, ne_bl, eq_bl, int_int, int_bl, ty_end, asL_lst, asL_fz, asS_tup, asS_lst, asS_fz, tgs_cons_eq, tgs_nil_eq, tg_tup_eq, tg_lst_eq, at_end, set_end, asS_end, asL_end, at_pre, set_pre, ty_pre, dTupRev, asS_tup, asS_lst, rz_end, rz_lst, mulT_tup, min3_eq, List.getElem?_cons_zero, List.getElem?_cons_succ, Option.some.injEq, exists_eq_left', exists_eq_left, exists_and_left, exists_and_right, and_assoc, D.int.injEq, D.bl.injEq, D.str.injEq, D.tup.injEq, D.lst.injEq, D.fz.injEq, D.ref.injEq, HB.lst.injEq, List.cons.injEq, and_true, true_and, List.set_cons_zero, List.set_cons_succ, List.map_cons, List.map_nil, List.length_cons, List.length_nil, Nat.reduceAdd, Nat.reduceSub, Nat.sub_self, Nat.zero_add, List.replicate_zero, List.replicate_succ, List.append_nil, List.cons_append, List.nil_append, decide_eq_true_eq, decide_eq_false_iff_not, Bool.not_eq_true', Bool.not_eq_false', Bool.true_eq_false, Bool.false_eq_true, false_implies, forall_const, true_implies, reduceCtorEq, and_false, false_and, Bool.not_true, Bool.not_false, if_true, if_false]
      refine ⟨ns, _, rfl, by omega, hl, fun j => ?_⟩
      simp only [sSeq, sNil, sIf, sRet, sRetN, sSet, sAsg, sExpr, sNever, sFor, sNox, sBrk, sCont, sFldD, sAug, sAugS, dVar, dC, dOp, dI0, dII, dNeg, dInv, dAndV, dOrV, dNotV, dTst, dTru, dAnd, dOr, dNot, dIfE, dChn, dCall, dCallK, dMake, aNil, aCons, dTup, dLst, dLstH, dFldC, dCB, dBM, tgN, tgSub, iL, iT, iR1, iR2, DEnds.xx, dLc, dLcH, dYes, dSl, oNon, oSome, nI2, nTup, nLst, nLstH, mApp, wipeD, dIn, dIsN, dNotN, dAddH, dMulH, iS, iEnS, iZipD, iZip3D, dIsB, dJoin, dRgT, dRgL, dRgH, dDNew, dDNewT, sDPutD, tru_bl, tru_int, add_int, add_tup, mul_int, len_tup, len_lst, len_fz, ne_int, eq_int, ne_bl, eq_bl, int_int, int_bl, ty_end, asL_lst, asL_fz, asS_tup, asS_lst, asS_fz, tgs_cons_eq, tgs_nil_eq, tg_tup_eq, tg_lst_eq, at_end, set_end, asS_end, asL_end, at_pre, set_pre, ty_pre, dTupRev, asS_tup, asS_lst, rz_end, rz_lst, mulT_tup, min3_eq, List.getElem?_cons_zero, List.getElem?_cons_succ, Option.some.injEq, exists_eq_left', exists_eq_left, exists_and_left, exists_and_right, and_assoc, D.int.injEq, D.bl.injEq, D.str.injEq, D.tup.injEq, D.lst.injEq, D.fz.injEq, D.ref.injEq, HB.lst.injEq, List.cons.injEq, and_true, true_and, List.set_cons_zero, List.set_cons_succ, List.map_cons, List.map_nil, List.length_cons, List.length_nil, Nat.reduceAdd, Nat.reduceSub, Nat.sub_self, Nat.zero_add, List.replicate_zero, List.replicate_succ, List.append_nil, List.cons_append, List.nil_append, decide_eq_true_eq, decide_eq_false_iff_not, Bool.not_eq_true', Bool.not_eq_false', Bool.true_eq_false, Bool.false_eq_true, false_implies, forall_const, true_implies, reduceCtorEq, and_false, false_and, Bool.not_true, Bool.not_false, if_true, if_false]
      have z0 : ∀ y : Int, 0 ≤ y % (l : Int) := fun y => Int.emod_nonneg _ (by omega)
      have z1 : ∀ y : Int, y % (l : Int) < l := fun y => Int.emod_lt_of_pos _ (by omega)
      refine ⟨.inr ⟨by decide, by decide⟩, by decide, ?_⟩
      refine ⟨.inr ⟨by decide, by decide⟩, .inr ⟨by decide, by decide⟩, by decide, ⟨by decide, by decide⟩, by omega, smallL (by rw [nats_len, R.len]; omega), hN _ _ ⟨_, _, _, ?_, congrArg (fun z => h ++ [HB.lst z]) (nats_appI (z0 _)), rfl⟩⟩
      exact R.app (z0 _) (z1 _)
    · rintro σ h' ⟨lf, o, r, R, rfl, rfl⟩
      simp only [sSeq, sNil, sIf, sRet, sRetN, sSet, sAsg, sExpr, sNever, sFor, sNox, sBrk, sCont, sFldD, sAug, sAugS, dVar, dC, dOp, dI0, dII, dNeg, dInv, dAndV, dOrV, dNotV, dTst, dTru, dAnd, dOr, dNot, dIfE, dChn, dCall, dCallK, dMake, aNil, aCons, dTup, dLst, dLstH, dFldC, dCB, dBM, tgN, tgSub, iL, iT, iR1, iR2, DEnds.xx, dLc, dLcH, dYes, dSl, oNon, oSome, nI2, nTup, nLst, nLstH, mApp, wipeD, dIn, dIsN, dNotN, dAddH, dMulH, iS, iEnS, iZipD, iZip3D, dIsB, dJoin, dRgT, dRgL, dRgH, dDNew, dDNewT, sDPutD, tru_bl, tru_int, add_int, add_tup, mul_int, len_tup, len_lst, len_fz, ne_int, eq_int, ne_bl, eq_bl, int_int, int_bl, ty_end, asL_lst, asL_fz, asS_tup, asS_lst, asS_fz, tgs_cons_eq, tgs_nil_eq, tg_tup_eq, tg_lst_eq, at_end, set_end, asS_end, asL_end, at_pre, set_pre, ty_pre, dTupRev, asS_tup, asS_lst, rz_end, rz_lst, mulT_tup, min3_eq, List.getElem?_cons_zero, List.getElem?_cons_succ, Option.some.injEq, exists_eq_left', exists_eq_left, exists_and_left, exists_and_right, and_assoc, D.int.injEq, D.bl.injEq, D.str.injEq, D.tup.injEq, D.lst.injEq, D.fz.injEq, D.ref.injEq, HB.lst.injEq, List.cons.injEq, and_true, true_and, List.set_cons_zero, List.set_cons_succ, List.map_cons, List.map_nil, List.length_cons, List.length_nil, Nat.reduceAdd, Nat.reduceSub, Nat.sub_self, Nat.zero_add, List.replicate_zero, List.replicate_succ, List.append_nil, List.cons_append, List.nil_append, decide_eq_true_eq, decide_eq_false_iff_not, Bool.not_eq_true', Bool.not_eq_false', Bool.true_eq_false, Bool.false_eq_true, false_implies, forall_const, true_implies, reduceCtorEq, and_false, false_and, Bool.not_true, Bool.not_false, if_true, if_false]
      rw [rg_len] at R
      exact fin R
theorem rd_is_integer (ds : List D) (h : DHp) (X : DX) (Q : DK) (hn : ds.length = 1) (c : ct_is_integer ds h X Q) : tb_is_integer (endsD h X Q) (startD N_is_integer.length ds) h := by
  obtain ⟨i, rfl, q⟩ := c
  simp only [tb_is_integer, startD, sSeq, sNil, sIf, sRet, sRetN, sSet, sAsg, sExpr, sNever, sFor, sNox, sBrk, sCont, sFldD, sAug, sAugS, dVar, dC, dOp, dI0, dII, dNeg, dInv, dAndV, dOrV, dNotV, dTst, dTru, dAnd, dOr, dNot, dIfE, dChn, dCall, dCallK, dMake, aNil, aCons, dTup, dLst, dLstH, dFldC, dCB, dBM, tgN, tgSub, iL, iT, iR1, iR2, DEnds.xx, dLc, dLcH, dYes, dSl, oNon, oSome, nI2, nTup, nLst, nLstH, mApp, wipeD, dIn, dIsN, dNotN, dAddH, dMulH, iS, iEnS, iZipD, iZip3D, dIsB, dJoin, dRgT, dRgL, dRgH, dDNew, dDNewT, sDPutD, tru_bl, tru_int, add_int, add_tup, mul_int, len_tup, len_lst, len_fz, ne_int, eq_int, ne_bl, eq_bl, int_int, int_bl, ty_end, asL_lst, asL_fz, asS_tup, asS_lst, asS_fz, tgs_cons_eq, tgs_nil_eq, tg_tup_eq, tg_lst_eq, at_end, set_end, asS_end, asL_end, at_pre, set_pre, ty_pre, dTupRev, asS_tup, asS_lst, rz_end, rz_lst, mulT_tup, min3_eq, List.getElem?_cons_zero, List.getElem?_cons_succ, Option.some.injEq, exists_eq_left', exists_eq_left, exists_and_left, exists_and_right, and_assoc, D.int.injEq, D.bl.injEq, D.str.injEq, D.tup.injEq, D.lst.injEq, D.fz.injEq, D.ref.injEq, HB.lst.injEq, List.cons.injEq, and_true, true_and, List.set_cons_zero, List.set_cons_succ, List.map_cons, List.map_nil, List.length_cons, List.length_nil, Nat.reduceAdd, Nat.reduceSub, Nat.sub_self, Nat.zero_add, List.replicate_zero, List.replicate_succ, List.append_nil, List.cons_append, List.nil_append, decide_eq_true_eq, decide_eq_false_iff_not, Bool.not_eq_true', Bool.not_eq_false', Bool.true_eq_false, Bool.false_eq_true, false_implies, forall_const, true_implies, reduceCtorEq, and_false, false_and, Bool.not_true, Bool.not_false, if_true, if_false, isT_00, isT_01, isT_02, isT_03, isT_04, plB_0, isT_10, isT_11, isT_12, isT_13, isT_14, plB_1, isT_20, isT_21, isT_22, isT_23, isT_24, plB_2, isT_30, isT_31, isT_32, isT_33, isT_34, plB_3, isT_40, isT_41, isT_42, isT_43, isT_44, plB_4, isT_50, isT_51, isT_52, isT_53, isT_54, plB_5, isT_60, isT_61, isT_62, isT_63, isT_64, plB_6, plB_0, plB_1, plB_2, plB_3, plB_4, plB_5, plB_6, isi_00, isi_01, isi_02, isi_03, isi_04, isi_lt_0, isi_tl_0, isi_10, isi_11, isi_12, isi_13, isi_14, isi_lt_1, isi_tl_1, isi_20, isi_21, isi_22, isi_23, isi_24, isi_lt_2, isi_tl_2, isi_30, isi_31, isi_32, isi_33, isi_34, isi_lt_3, isi_tl_3, isi_40, isi_41, isi_42, isi_43, isi_44, isi_lt_4, isi_tl_4, isi_50, isi_51, isi_52, isi_53, isi_54, isi_lt_5, isi_tl_5, isi_60, isi_61, isi_62, isi_63, isi_64, isi_lt_6, isi_tl_6, isN_0, isN_1, isN_2, isN_3, isN_4, isN_5, isN_6, sizeLine_eq, Nat.reduceLeDiff, Nat.reduceLT, Nat.le_refl, Nat.zero_le]
  exact rt_keep q
theorem rd_is_between (ds : List D) (h : DHp) (X : DX) (Q : DK) (hn : ds.length = 3) (c : ct_is_between ds h X Q) : tb_is_between (endsD h X Q) (startD N_is_between.length ds) h := by
  obtain ⟨i, lo, hi, rfl, q⟩ := c
  have q' := rt_of (h0 := h) (X := X) q
  simp only [tb_is_between, startD, sSeq, sNil, sIf, sRet, sRetN, sSet, sAsg, sExpr, sNever, sFor, sNox, sBrk, sCont, sFldD, sAug, sAugS, dVar, dC, dOp, dI0, dII, dNeg, dInv, dAndV, dOrV, dNotV, dTst, dTru, dAnd, dOr, dNot, dIfE, dChn, dCall, dCallK, dMake, aNil, aCons, dTup, dLst, dLstH, dFldC, dCB, dBM, tgN, tgSub, iL, iT, iR1, iR2, DEnds.xx, dLc, dLcH, dYes, dSl, oNon, oSome, nI2, nTup, nLst, nLstH, mApp, wipeD, dIn, dIsN, dNotN, dAddH, dMulH, iS, iEnS, iZipD, iZip3D, dIsB, dJoin, dRgT, dRgL, dRgH, dDNew, dDNewT, sDPutD, tru_bl, tru_int, add_int, add_tup, mul_int, len_tup, len_lst, len_fz, ne_int, eq_int, ne_bl, eq_bl, int_int, int_bl, ty_end, asL_lst, asL_fz, asS_tup, asS_lst, asS_fz, tgs_cons_eq, tgs_nil_eq, tg_tup_eq, tg_lst_eq, at_end, set_end, asS_end, asL_end, at_pre, set_pre, ty_pre, dTupRev, asS_tup, asS_lst, rz_end, rz_lst, mulT_tup, min3_eq, List.getElem?_cons_zero, List.getElem?_cons_succ, Option.some.injEq, exists_eq_left', exists_eq_left, exists_and_left, exists_and_right, and_assoc, D.int.injEq, D.bl.injEq, D.str.injEq, D.tup.injEq, D.lst.injEq, D.fz.injEq, D.ref.injEq, HB.lst.injEq, List.cons.injEq, and_true, true_and, List.set_cons_zero, List.set_cons_succ, List.map_cons, List.map_nil, List.length_cons, List.length_nil, Nat.reduceAdd, Nat.reduceSub, Nat.sub_self, Nat.zero_add, List.replicate_zero, List.replicate_succ, List.append_nil, List.cons_append, List.nil_append, decide_eq_true_eq, decide_eq_false_iff_not, Bool.not_eq_true', Bool.not_eq_false', Bool.true_eq_false, Bool.false_eq_true, false_implies, forall_const, true_implies, reduceCtorEq, and_false, false_and, Bool.not_true, Bool.not_false, if_true, if_false, isT_00, isT_01, isT_02, isT_03, isT_04, plB_0, isT_10, isT_11, isT_12, isT_13, isT_14, plB_1, isT_20, isT_21, isT_22, isT_23, isT_24, plB_2, isT_30, isT_31, isT_32, isT_33, isT_34, plB_3, isT_40, isT_41, isT_42, isT_43, isT_44, plB_4, isT_50, isT_51, isT_52, isT_53, isT_54, plB_5, isT_60, isT_61, isT_62, isT_63, isT_64, plB_6, plB_0, plB_1, plB_2, plB_3, plB_4, plB_5, plB_6, isi_00, isi_01, isi_02, isi_03, isi_04, isi_lt_0, isi_tl_0, isi_10, isi_11, isi_12, isi_13, isi_14, isi_lt_1, isi_tl_1, isi_20, isi_21, isi_22, isi_23, isi_24, isi_lt_2, isi_tl_2, isi_30, isi_31, isi_32, isi_33, isi_34, isi_lt_3, isi_tl_3, isi_40, isi_41, isi_42, isi_43, isi_44, isi_lt_4, isi_tl_4, isi_50, isi_51, isi_52, isi_53, isi_54, isi_lt_5, isi_tl_5, isi_60, isi_61, isi_62, isi_63, isi_64, isi_lt_6, isi_tl_6, isN_0, isN_1, isN_2, isN_3, isN_4, isN_5, isN_6, sizeLine_eq, Nat.reduceLeDiff, Nat.reduceLT, Nat.le_refl, Nat.zero_le, ct_is_integer]
  refine ⟨⟨i, rfl⟩, fun h1 => ?_, fun h1 => ?_⟩
  · rw [decide_eq_true h1, Bool.true_and] at q'; exact q'
  · rw [decide_eq_false h1, Bool.false_and] at q'; exact q'
theorem rd_is_bit (ds : List D) (h : DHp) (X : DX) (Q : DK) (hn : ds.length = 1) (c : ct_is_bit ds h X Q) : tb_is_bit (endsD h X Q) (startD N_is_bit.length ds) h := by
  obtain ⟨b, rfl, q⟩ := c
  simp only [tb_is_bit, startD, sSeq, sNil, sIf, sRet, sRetN, sSet, sAsg, sExpr, sNever, sFor, sNox, sBrk, sCont, sFldD, sAug, sAugS, dVar, dC, dOp, dI0, dII, dNeg, dInv, dAndV, dOrV, dNotV, dTst, dTru, dAnd, dOr, dNot, dIfE, dChn, dCall, dCallK, dMake, aNil, aCons, dTup, dLst, dLstH, dFldC, dCB, dBM, tgN, tgSub, iL, iT, iR1, iR2, DEnds.xx, dLc, dLcH, dYes, dSl, oNon, oSome, nI2, nTup, nLst, nLstH, mApp, wipeD, dIn, dIsN, dNotN, dAddH, dMulH, iS, iEnS, iZipD, iZip3D, dIsB, dJoin, dRgT, dRgL, dRgH, dDNew, dDNewT, sDPutD, tru_bl, tru_int, add_int, add_tup, mul_int, len_tup, len_lst, len_fz, ne_int, eq_int, ne_bl, eq_bl, int_int, int_bl, ty_end, asL_lst, asL_fz, asS_tup, asS_lst, asS_fz, tgs_cons_eq, tgs_nil_eq, tg_tup_eq, tg_lst_eq, at_end, set_end, asS_end, asL_end, at_pre, set_pre, ty_pre, dTupRev, asS_tup, asS_lst, rz_end, rz_lst, mulT_tup, min3_eq, List.getElem?_cons_zero, List.getElem?_cons_succ, Option.some.injEq, exists_eq_left', exists_eq_left, exists_and_left, exists_and_right, and_assoc, D.int.injEq, D.bl.injEq, D.str.injEq, D.tup.injEq, D.lst.injEq, D.fz.injEq, D.ref.injEq, HB.lst.injEq, List.cons.injEq, and_true, true_and, List.set_cons_zero, List.set_cons_succ, List.map_cons, List.map_nil, List.length_cons, List.length_nil, Nat.reduceAdd, Nat.reduceSub, Nat.sub_self, Nat.zero_add, List.replicate_zero, List.replicate_succ, List.append_nil, List.cons_append, List.nil_append, decide_eq_true_eq, decide_eq_false_iff_not, Bool.not_eq_true', Bool.not_eq_false', Bool.true_eq_false, Bool.false_eq_true, false_implies, forall_const, true_implies, reduceCtorEq, and_false, false_and, Bool.not_true, Bool.not_false, if_true, if_false, isT_00, isT_01, isT_02, isT_03, isT_04, plB_0, isT_10, isT_11, isT_12, isT_13, isT_14, plB_1, isT_20, isT_21, isT_22, isT_23, isT_24, plB_2, isT_30, isT_31, isT_32, isT_33, isT_34, plB_3, isT_40, isT_41, isT_42, isT_43, isT_44, plB_4, isT_50, isT_51, isT_52, isT_53, isT_54, plB_5, isT_60, isT_61, isT_62, isT_63, isT_64, plB_6, plB_0, plB_1, plB_2, plB_3, plB_4, plB_5, plB_6, isi_00, isi_01, isi_02, isi_03, isi_04, isi_lt_0, isi_tl_0, isi_10, isi_11, isi_12, isi_13, isi_14, isi_lt_1, isi_tl_1, isi_20, isi_21, isi_22, isi_23, isi_24, isi_lt_2, isi_tl_2, isi_30, isi_31, isi_32, isi_33, isi_34, isi_lt_3, isi_tl_3, isi_40, isi_41, isi_42, isi_43, isi_44, isi_lt_4, isi_tl_4, isi_50, isi_51, isi_52, isi_53, isi_54, isi_lt_5, isi_tl_5, isi_60, isi_61, isi_62, isi_63, isi_64, isi_lt_6, isi_tl_6, isN_0, isN_1, isN_2, isN_3, isN_4, isN_5, isN_6, sizeLine_eq, Nat.reduceLeDiff, Nat.reduceLT, Nat.le_refl, Nat.zero_le]
  refine ⟨b2D b, 0, 1, rfl, ?_⟩
  rw [show (decide ((0 : Int) ≤ b2D b) && decide (b2D b ≤ 1)) = true from by cases b <;> rfl]
  exact rt_keep q
theorem rd_is_word (ds : List D) (h : DHp) (X : DX) (Q : DK) (hn : ds.length = 2) (c : ct_is_word ds h X Q) : tb_is_word (endsD h X Q) (startD N_is_word.length ds) h := by
  obtain ⟨w, n, rfl, hw, hl, q⟩ := c
  have lm : (w.map bitD).length = w.length := List.length_map _
  have en : ((w.length : Nat) : Int) == ((n : Nat) : Int) := by rw [hw]; exact beq_self_eq_true _
  simp only [tb_is_word, startD, sSeq, sNil, sIf, sRet, sRetN, sSet, sAsg, sExpr, sNever, sFor, sNox, sBrk, sCont, sFldD, sAug, sAugS, dVar, dC, dOp, dI0, dII, dNeg, dInv, dAndV, dOrV, dNotV, dTst, dTru, dAnd, dOr, dNot, dIfE, dChn, dCall, dCallK, dMake, aNil, aCons, dTup, dLst, dLstH, dFldC, dCB, dBM, tgN, tgSub, iL, iT, iR1, iR2, DEnds.xx, dLc, dLcH, dYes, dSl, oNon, oSome, nI2, nTup, nLst, nLstH, mApp, wipeD, dIn, dIsN, dNotN, dAddH, dMulH, iS, iEnS, iZipD, iZip3D, dIsB, dJoin, dRgT, dRgL, dRgH, dDNew, dDNewT, sDPutD, tru_bl, tru_int, add_int, add_tup, mul_int, len_tup, len_lst, len_fz, ne_int, eq_int, ne_bl, eq_bl, int_int, int_bl, ty_end, asL_lst, asL_fz, asS_tup, asS_lst, asS_fz, tgs_cons_eq, tgs_nil_eq, tg_tup_eq, tg_lst_eq, at_end, set_end, asS_end, asL_end, at_pre, set_pre, ty_pre, dTupRev, asS_tup, asS_lst, rz_end, rz_lst, mulT_tup, min3_eq, List.getElem?_cons_zero, List.getElem?_cons_succ, Option.some.injEq, exists_eq_left', exists_eq_left, exists_and_left, exists_and_right, and_assoc, D.int.injEq, D.bl.injEq, D.str.injEq, D.tup.injEq, D.lst.injEq, D.fz.injEq, D.ref.injEq, HB.lst.injEq, List.cons.injEq, and_true, true_and, List.set_cons_zero, List.set_cons_succ, List.map_cons, List.map_nil, List.length_cons, List.length_nil, Nat.reduceAdd, Nat.reduceSub, Nat.sub_self, Nat.zero_add, List.replicate_zero, List.replicate_succ, List.append_nil, List.cons_append, List.nil_append, decide_eq_true_eq, decide_eq_false_iff_not, Bool.not_eq_true', Bool.not_eq_false', Bool.true_eq_false, Bool.false_eq_true, false_implies, forall_const, true_implies, reduceCtorEq, and_false, false_and, Bool.not_true, Bool.not_false, if_true, if_false, isT_00, isT_01, isT_02, isT_03, isT_04, plB_0, isT_10, isT_11, isT_12, isT_13, isT_14, plB_1, isT_20, isT_21, isT_22, isT_23, isT_24, plB_2, isT_30, isT_31, isT_32, isT_33, isT_34, plB_3, isT_40, isT_41, isT_42, isT_43, isT_44, plB_4, isT_50, isT_51, isT_52, isT_53, isT_54, plB_5, isT_60, isT_61, isT_62, isT_63, isT_64, plB_6, plB_0, plB_1, plB_2, plB_3, plB_4, plB_5, plB_6, isi_00, isi_01, isi_02, isi_03, isi_04, isi_lt_0, isi_tl_0, isi_10, isi_11, isi_12, isi_13, isi_14, isi_lt_1, isi_tl_1, isi_20, isi_21, isi_22, isi_23, isi_24, isi_lt_2, isi_tl_2, isi_30, isi_31, isi_32, isi_33, isi_34, isi_lt_3, isi_tl_3, isi_40, isi_41, isi_42, isi_43, isi_44, isi_lt_4, isi_tl_4, isi_50, isi_51, isi_52, isi_53, isi_54, isi_lt_5, isi_tl_5, isi_60, isi_61, isi_62, isi_63, isi_64, isi_lt_6, isi_tl_6, isN_0, isN_1, isN_2, isN_3, isN_4, isN_5, isN_6, sizeLine_eq, Nat.reduceLeDiff, Nat.reduceLT, Nat.le_refl, Nat.zero_le, wrd, lm, en]
  refine lc_mapT w bitD (fun _ => .bl true) (fun _ => trivial) (by omega) (fun i hi acc R hz hA => ?_) ?_
  · simp only [sSeq, sNil, sIf, sRet, sRetN, sSet, sAsg, sExpr, sNever, sFor, sNox, sBrk, sCont, sFldD, sAug, sAugS, dVar, dC, dOp, dI0, dII, dNeg, dInv, dAndV, dOrV, dNotV, dTst, dTru, dAnd, dOr, dNot, dIfE, dChn, dCall, dCallK, dMake, aNil, aCons, dTup, dLst, dLstH, dFldC, dCB, dBM, tgN, tgSub, iL, iT, iR1, iR2, DEnds.xx, dLc, dLcH, dYes, dSl, oNon, oSome, nI2, nTup, nLst, nLstH, mApp, wipeD, dIn, dIsN, dNotN, dAddH, dMulH, iS, iEnS, iZipD, iZip3D, dIsB, dJoin, dRgT, dRgL, dRgH, dDNew, dDNewT, sDPutD, tru_bl, tru_int, add_int, add_tup, mul_int, len_tup, len_lst, len_fz, ne_int, eq_int, ne_bl, eq_bl, int_int, int_bl, ty_end, asL_lst, asL_fz, asS_tup, asS_lst, asS_fz, tgs_cons_eq, tgs_nil_eq, tg_tup_eq, tg_lst_eq, at_end, set_end, asS_end, asL_end, at_pre, set_pre, ty_pre, dTupRev, asS_tup, asS_lst, rz_end, rz_lst, mulT_tup, min3_eq, List.getElem?_cons_zero, List.getElem?_cons_succ, Option.some.injEq, exists_eq_left', exists_eq_left, exists_and_left, exists_and_right, and_assoc, D.int.injEq, D.bl.injEq, D.str.injEq, D.tup.injEq, D.lst.injEq, D.fz.injEq, D.ref.injEq, HB.lst.injEq, List.cons.injEq, and_true, true_and, List.set_cons_zero, List.set_cons_succ, List.map_cons, List.map_nil, List.length_cons, List.length_nil, Nat.reduceAdd, Nat.reduceSub, Nat.sub_self, Nat.zero_add, List.replicate_zero, List.replicate_succ, List.append_nil, List.cons_append, List.nil_append, decide_eq_true_eq, decide_eq_false_iff_not, Bool.not_eq_true', Bool.not_eq_false', Bool.true_eq_false, Bool.false_eq_true, false_implies, forall_const, true_implies, reduceCtorEq, and_false, false_and, Bool.not_true, Bool.not_false, if_true, if_false, isT_00, isT_01, isT_02, isT_03, isT_04, plB_0, isT_10, isT_11, isT_12, isT_13, isT_14, plB_1, isT_20, isT_21, isT_22, isT_23, isT_24, plB_2, isT_30, isT_31, isT_32, isT_33, isT_34, plB_3, isT_40, isT_41, isT_42, isT_43, isT_44, plB_4, isT_50, isT_51, isT_52, isT_53, isT_54, plB_5, isT_60, isT_61, isT_62, isT_63, isT_64, plB_6, plB_0, plB_1, plB_2, plB_3, plB_4, plB_5, plB_6, isi_00, isi_01, isi_02, isi_03, isi_04, isi_lt_0, isi_tl_0, isi_10, isi_11, isi_12, isi_13, isi_14, isi_lt_1, isi_tl_1, isi_20, isi_21, isi_22, isi_23, isi_24, isi_lt_2, isi_tl_2, isi_30, isi_31, isi_32, isi_33, isi_34, isi_lt_3, isi_tl_3, isi_40, isi_41, isi_42, isi_43, isi_44, isi_lt_4, isi_tl_4, isi_50, isi_51, isi_52, isi_53, isi_54, isi_lt_5, isi_tl_5, isi_60, isi_61, isi_62, isi_63, isi_64, isi_lt_6, isi_tl_6, isN_0, isN_1, isN_2, isN_3, isN_4, isN_5, isN_6, sizeLine_eq, Nat.reduceLeDiff, Nat.reduceLT, Nat.le_refl, Nat.zero_le, ct_is_bit]
    exact ⟨⟨w[i], rfl⟩, hz, hA⟩
  · have e : w.map (fun _ => D.bl true) = (w.map fun _ => true).map D.bl := by rw [List.map_map]; rfl
    rw [e]
    refine ⟨_, rfl, Bds_all' fun x hx => ?_, _, _, rfl, rfl, ?_⟩
    · obtain ⟨b, _, rfl⟩ := List.mem_map.mp hx
      trivial
    · rw [show (w.map fun _ => true).all id = true from List.all_eq_true.mpr fun x hx => by obtain ⟨_, _, rfl⟩ := List.mem_map.mp hx; rfl]
      exact rt_keep q
theorem wrd_ok (w : List Bool) : OkD 2 (wrd w) := fun x hx => by
  obtain ⟨b, _, rfl⟩ := List.mem_map.mp hx
  trivial
theorem wrd_alk : ∀ a b : List Bool, alkD (wrd a) (wrd b) = true := fun a b => by
  show PySem.W.alikeAll (toPs (a.map bitD)) (toPs (b.map bitD)) = true
  induction a generalizing b with
  | nil => simp [toPs, PySem.W.alikeAll]
  | cons x a ih =>
    cases b with
    | nil => simp [toPs, PySem.W.alikeAll]
    | cons y b =>
      rw [List.map_cons, List.map_cons, toPs, toPs, PySem.W.alikeAll, ih b]
      have : PySem.W.alike (toP (bitD x)) (toP (bitD y)) = true := by cases x <;> cases y <;> decide +kernel
      rw [this]; rfl
theorem ws_len {L : Nat} {row : List Nat} : (wsD L row).length = row.length := List.length_map _
theorem rd_Words_init (ds : List D) (h : DHp) (X : DX) (Q : DK) (hn : ds.length = 3) (c : ct_Words_init ds h X Q) : tb_Words_init (endsD h X Q) (startD N_Words_init.length ds) h := by
  obtain ⟨i, L, row, d, rfl, hd, hi, ok, q⟩ := c
  have es : ∀ h, asS h d = some (wsD L row) := fun h => by rcases hd with rfl | rfl <;> rfl
  have pl : plB d = true := by rcases hd with rfl | rfl <;> rfl
  have lt : (isT d "list" || isT d "tuple") = true := by rcases hd with rfl | rfl <;> rfl
  have ln : ∀ {h : DHp} {Q : DK}, nLen [d] h Q ↔ Q (.int (row.length : Nat)) h := fun {h Q} => by rcases hd with rfl | rfl <;> simp only [tru_bl, tru_int, add_int, add_tup, mul_int, len_tup, len_lst, len_fz, ne_int, eq_int, ne_bl, eq_bl, int_int, int_bl, ty_end, asL_lst, asL_fz, asS_tup, asS_lst, asS_fz, tgs_cons_eq, tgs_nil_eq, tg_tup_eq, tg_lst_eq, at_end, set_end, asS_end, asL_end, at_pre, set_pre, ty_pre, dTupRev, asS_tup, asS_lst, rz_end, rz_lst, mulT_tup, min3_eq, ws_len]
  have b1 : (decide ((0 : Int) ≤ (L : Int)) && decide ((L : Int) ≤ 39)) = true := by have := ok.le; simp; omega
  have n0 : (((row.length : Nat) : Int) == 0) = false := by simpa using ok.ne
  have hil : i < h.length := (List.getElem?_eq_some_iff.mp hi).1
  have few := ok.few
  simp only [tb_Words_init, startD, sSeq, sNil, sIf, sRet, sRetN, sSet, sAsg, sExpr, sNever, sFor, sNox, sBrk, sCont, sFldD, sAug, sAugS, dVar, dC, dOp, dI0, dII, dNeg, dInv, dAndV, dOrV, dNotV, dTst, dTru, dAnd, dOr, dNot, dIfE, dChn, dCall, dCallK, dMake, aNil, aCons, dTup, dLst, dLstH, dFldC, dCB, dBM, tgN, tgSub, iL, iT, iR1, iR2, DEnds.xx, dLc, dLcH, dYes, dSl, oNon, oSome, nI2, nTup, nLst, nLstH, mApp, wipeD, dIn, dIsN, dNotN, dAddH, dMulH, iS, iEnS, iZipD, iZip3D, dIsB, dJoin, dRgT, dRgL, dRgH, dDNew, dDNewT, sDPutD, tru_bl, tru_int, add_int, add_tup, mul_int, len_tup, len_lst, len_fz, ne_int, eq_int, ne_bl, eq_bl, int_int, int_bl, ty_end, asL_lst, asL_fz, asS_tup, asS_lst, asS_fz, tgs_cons_eq, tgs_nil_eq, tg_tup_eq, tg_lst_eq, at_end, set_end, asS_end, asL_end, at_pre, set_pre, ty_pre, dTupRev, asS_tup, asS_lst, rz_end, rz_lst, mulT_tup, min3_eq, List.getElem?_cons_zero, List.getElem?_cons_succ, Option.some.injEq, exists_eq_left', exists_eq_left, exists_and_left, exists_and_right, and_assoc, D.int.injEq, D.bl.injEq, D.str.injEq, D.tup.injEq, D.lst.injEq, D.fz.injEq, D.ref.injEq, HB.lst.injEq, List.cons.injEq, and_true, true_and, List.set_cons_zero, List.set_cons_succ, List.map_cons, List.map_nil, List.length_cons, List.length_nil, Nat.reduceAdd, Nat.reduceSub, Nat.sub_self, Nat.zero_add, List.replicate_zero, List.replicate_succ, List.append_nil, List.cons_append, List.nil_append, decide_eq_true_eq, decide_eq_false_iff_not, Bool.not_eq_true', Bool.not_eq_false', Bool.true_eq_false, Bool.false_eq_true, false_implies, forall_const, true_implies, reduceCtorEq, and_false, false_and, Bool.not_true, Bool.not_false, if_true, if_false, isT_00, isT_01, isT_02, isT_03, isT_04, plB_0, isT_10, isT_11, isT_12, isT_13, isT_14, plB_1, isT_20, isT_21, isT_22, isT_23, isT_24, plB_2, isT_30, isT_31, isT_32, isT_33, isT_34, plB_3, isT_40, isT_41, isT_42, isT_43, isT_44, plB_4, isT_50, isT_51, isT_52, isT_53, isT_54, plB_5, isT_60, isT_61, isT_62, isT_63, isT_64, plB_6, plB_0, plB_1, plB_2, plB_3, plB_4, plB_5, plB_6, isi_00, isi_01, isi_02, isi_03, isi_04, isi_lt_0, isi_tl_0, isi_10, isi_11, isi_12, isi_13, isi_14, isi_lt_1, isi_tl_1, isi_20, isi_21, isi_22, isi_23, isi_24, isi_lt_2, isi_tl_2, isi_30, isi_31, isi_32, isi_33, isi_34, isi_lt_3, isi_tl_3, isi_40, isi_41, isi_42, isi_43, isi_44, isi_lt_4, isi_tl_4, isi_50, isi_51, isi_52, isi_53, isi_54, isi_lt_5, isi_tl_5, isi_60, isi_61, isi_62, isi_63, isi_64, isi_lt_6, isi_tl_6, isN_0, isN_1, isN_2, isN_3, isN_4, isN_5, isN_6, sizeLine_eq, Nat.reduceLeDiff, Nat.reduceLT, Nat.le_refl, Nat.zero_le, ct_is_between, isi_lt pl, lt, b1, ln, n0, es]
  refine forW_inv (enD 0 (wsD L row)) (fun k σ h' => h = h' ∧ ∃ o o2, σ = [some (.ref i), some (.int L), some d, o, o2]) ⟨rfl, _, _, rfl⟩ (fun _ _ h' _ _ => es h') ?_ ?_
  · rintro k x σ h' N hx ⟨rfl, o, o2, rfl⟩ hN
    obtain ⟨y, hy, rfl⟩ := enD_get 0 _ k x hx
    obtain ⟨n, hn, rfl, ht, hd2, hm⟩ := get_map hy
    have hk : k < row.length := (List.getElem?_eq_some_iff.mp hn).1
    have hN' := hN [some (.ref i), some (.int L), some d, some (.int ((0 + k : Nat) : Int)), some (wrd (bitsN L n))] h ⟨rfl, _, _, rfl⟩
    rw [Nat.zero_add] at hN'
    have k40 : (((k : Nat) : Int) == 40) = false := by simp; omega
    simp only [sSeq, sNil, sIf, sRet, sRetN, sSet, sAsg, sExpr, sNever, sFor, sNox, sBrk, sCont, sFldD, sAug, sAugS, dVar, dC, dOp, dI0, dII, dNeg, dInv, dAndV, dOrV, dNotV, dTst, dTru, dAnd, dOr, dNot, dIfE, dChn, dCall, dCallK, dMake, aNil, aCons, dTup, dLst, dLstH, dFldC, dCB, dBM, tgN, tgSub, iL, iT, iR1, iR2, DEnds.xx, dLc, dLcH, dYes, dSl, oNon, oSome, nI2, nTup, nLst, nLstH, mApp, wipeD, dIn, dIsN, dNotN, dAddH, dMulH, iS, iEnS, iZipD, iZip3D, dIsB, dJoin, dRgT, dRgL, dRgH, dDNew, dDNewT, sDPutD, tru_bl, tru_int, add_int, add_tup, mul_int, len_tup, len_lst, len_fz, ne_int, eq_int, ne_bl, eq_bl, int_int, int_bl, ty_end, asL_lst, asL_fz, asS_tup, asS_lst, asS_fz, tgs_cons_eq, tgs_nil_eq, tg_tup_eq, tg_lst_eq, at_end, set_end, asS_end, asL_end, at_pre, set_pre, ty_pre, dTupRev, asS_tup, asS_lst, rz_end, rz_lst, mulT_tup, min3_eq, List.getElem?_cons_zero, List.getElem?_cons_succ, Option.some.injEq, exists_eq_left', exists_eq_left, exists_and_left, exists_and_right, and_assoc, D.int.injEq, D.bl.injEq, D.str.injEq, D.tup.injEq, D.lst.injEq, D.fz.injEq, D.ref.injEq, HB.lst.injEq, List.cons.injEq, and_true, true_and, List.set_cons_zero, List.set_cons_succ, List.map_cons, List.map_nil, List.length_cons, List.length_nil, Nat.reduceAdd, Nat.reduceSub, Nat.sub_self, Nat.zero_add, List.replicate_zero, List.replicate_succ, List.append_nil, List.cons_append, List.nil_append, decide_eq_true_eq, decide_eq_false_iff_not, Bool.not_eq_true', Bool.not_eq_false', Bool.true_eq_false, Bool.false_eq_true, false_implies, forall_const, true_implies, reduceCtorEq, and_false, false_and, Bool.not_true, Bool.not_false, if_true, if_false, isT_00, isT_01, isT_02, isT_03, isT_04, plB_0, isT_10, isT_11, isT_12, isT_13, isT_14, plB_1, isT_20, isT_21, isT_22, isT_23, isT_24, plB_2, isT_30, isT_31, isT_32, isT_33, isT_34, plB_3, isT_40, isT_41, isT_42, isT_43, isT_44, plB_4, isT_50, isT_51, isT_52, isT_53, isT_54, plB_5, isT_60, isT_61, isT_62, isT_63, isT_64, plB_6, plB_0, plB_1, plB_2, plB_3, plB_4, plB_5, plB_6, isi_00, isi_01, isi_02, isi_03, isi_04, isi_lt_0, isi_tl_0, isi_10, isi_11, isi_12, isi_13, isi_14, isi_lt_1, isi_tl_1, isi_20, isi_21, isi_22, isi_23, isi_24, isi_lt_2, isi_tl_2, isi_30, isi_31, isi_32, isi_33, isi_34, isi_lt_3, isi_tl_3, isi_40, isi_41, isi_42, isi_43, isi_44, isi_lt_4, isi_tl_4, isi_50, isi_51, isi_52, isi_53, isi_54, isi_lt_5, isi_tl_5, isi_60, isi_61, isi_62, isi_63, isi_64, isi_lt_6, isi_tl_6, isN_0, isN_1, isN_2, isN_3, isN_4, isN_5, isN_6, sizeLine_eq, Nat.reduceLeDiff, Nat.reduceLT, Nat.le_refl, Nat.zero_le, Nat.zero_add, k40]
    refine ⟨bitsN L n, L, rfl, bitsN_len, ok.le, true, rfl, (fun z => nomatch z), fun _ => ⟨fun hi => ?_, fun _ => hN'⟩⟩
    obtain ⟨k, rfl⟩ : ∃ j, k = j + 1 := ⟨k - 1, by omega⟩
    have en : row[k + 1] = n := (List.getElem?_eq_some_iff.mp hn).2
    have e2 : atI (wsD L row) (((k + 1 : Nat) : Int) - 1) = some (wrd (bitsN L row[k])) := by
      rw [show ((k + 1 : Nat) : Int) - 1 = (k : Int) from by omega]
      refine atI_nat ?_
      unfold wsD
      rw [List.getElem?_map, List.getElem?_eq_getElem (by omega)]; rfl
    refine ix_of (es _) e2 ⟨(wrd_ok _).up (by decide), (wrd_ok _).up (by decide), rfl, wrd_alk _ _, _, rfl, fun z => ?_, fun _ => hN'⟩
    have z' : (!ltD (wrd (bitsN L row[k])) (wrd (bitsN L n))) = true := z
    have up := List.pairwise_iff_getElem.mp ok.rn.up k (k + 1) (by omega) hk (Nat.lt_succ_self _)
    rw [bits_lt L row[k] n (by rw [Nat.mod_eq_of_lt (ok.rn.lt _ (List.getElem_mem _)), Nat.mod_eq_of_lt (ok.rn.lt _ hm), ← en]; exact up)] at z'
    cases z'
  · rintro σ h' ⟨rfl, o, o2, rfl⟩
    simp only [sSeq, sNil, sIf, sRet, sRetN, sSet, sAsg, sExpr, sNever, sFor, sNox, sBrk, sCont, sFldD, sAug, sAugS, dVar, dC, dOp, dI0, dII, dNeg, dInv, dAndV, dOrV, dNotV, dTst, dTru, dAnd, dOr, dNot, dIfE, dChn, dCall, dCallK, dMake, aNil, aCons, dTup, dLst, dLstH, dFldC, dCB, dBM, tgN, tgSub, iL, iT, iR1, iR2, DEnds.xx, dLc, dLcH, dYes, dSl, oNon, oSome, nI2, nTup, nLst, nLstH, mApp, wipeD, dIn, dIsN, dNotN, dAddH, dMulH, iS, iEnS, iZipD, iZip3D, dIsB, dJoin, dRgT, dRgL, dRgH, dDNew, dDNewT, sDPutD, tru_bl, tru_int, add_int, add_tup, mul_int, len_tup, len_lst, len_fz, ne_int, eq_int, ne_bl, eq_bl, int_int, int_bl, ty_end, asL_lst, asL_fz, asS_tup, asS_lst, asS_fz, tgs_cons_eq, tgs_nil_eq, tg_tup_eq, tg_lst_eq, at_end, set_end, asS_end, asL_end, at_pre, set_pre, ty_pre, dTupRev, asS_tup, asS_lst, rz_end, rz_lst, mulT_tup, min3_eq, List.getElem?_cons_zero, List.getElem?_cons_succ, Option.some.injEq, exists_eq_left', exists_eq_left, exists_and_left, exists_and_right, and_assoc, D.int.injEq, D.bl.injEq, D.str.injEq, D.tup.injEq, D.lst.injEq, D.fz.injEq, D.ref.injEq, HB.lst.injEq, List.cons.injEq, and_true, true_and, List.set_cons_zero, List.set_cons_succ, List.map_cons, List.map_nil, List.length_cons, List.length_nil, Nat.reduceAdd, Nat.reduceSub, Nat.sub_self, Nat.zero_add, List.replicate_zero, List.replicate_succ, List.append_nil, List.cons_append, List.nil_append, decide_eq_true_eq, decide_eq_false_iff_not, Bool.not_eq_true', Bool.not_eq_false', Bool.true_eq_false, Bool.false_eq_true, false_implies, forall_const, true_implies, reduceCtorEq, and_false, false_and, Bool.not_true, Bool.not_false, if_true, if_false, isT_00, isT_01, isT_02, isT_03, isT_04, plB_0, isT_10, isT_11, isT_12, isT_13, isT_14, plB_1, isT_20, isT_21, isT_22, isT_23, isT_24, plB_2, isT_30, isT_31, isT_32, isT_33, isT_34, plB_3, isT_40, isT_41, isT_42, isT_43, isT_44, plB_4, isT_50, isT_51, isT_52, isT_53, isT_54, plB_5, isT_60, isT_61, isT_62, isT_63, isT_64, plB_6, plB_0, plB_1, plB_2, plB_3, plB_4, plB_5, plB_6, isi_00, isi_01, isi_02, isi_03, isi_04, isi_lt_0, isi_tl_0, isi_10, isi_11, isi_12, isi_13, isi_14, isi_lt_1, isi_tl_1, isi_20, isi_21, isi_22, isi_23, isi_24, isi_lt_2, isi_tl_2, isi_30, isi_31, isi_32, isi_33, isi_34, isi_lt_3, isi_tl_3, isi_40, isi_41, isi_42, isi_43, isi_44, isi_lt_4, isi_tl_4, isi_50, isi_51, isi_52, isi_53, isi_54, isi_lt_5, isi_tl_5, isi_60, isi_61, isi_62, isi_63, isi_64, isi_lt_6, isi_tl_6, isN_0, isN_1, isN_2, isN_3, isN_4, isN_5, isN_6]
    have e4 : (h.set i (.ins "Words" [("length", .int L)]))[i]? = some (.ins "Words" [("length", .int L)]) := by rw [List.getElem?_set_self hil]
    refine ⟨_, "Words", List.mem_singleton_self _, rfl, _, hi, by decide, rfl, _, es _, _, "Words", List.mem_singleton_self _, rfl, _, e4, by simp, rfl, ?_⟩
    rw [List.set_set]
    exact rt_keep q
theorem nat_step (n m : Nat) : 2 * (n / 2 ^ (m + 1)) + (n.testBit m).toNat = n / 2 ^ m := by
  rw [Nat.testBit_eq_decide_div_mod_eq, Nat.pow_succ, ← Nat.div_div_eq_div_mul]
  have : n / 2 ^ m % 2 < 2 := Nat.mod_lt _ (by decide)
  rcases (show n / 2 ^ m % 2 = 0 ∨ n / 2 ^ m % 2 = 1 by omega) with e | e <;> simp [e] <;> omega
theorem b2D_nat (b : Bool) : b2D b = ((b.toNat : Nat) : Int) := by cases b <;> rfl
theorem rd_number_of_word (ds : List D) (h : DHp) (X : DX) (Q : DK) (hn : ds.length = 1) (c : ct_number_of_word ds h X Q) : tb_number_of_word (endsD h X Q) (startD N_number_of_word.length ds) h := by
  obtain ⟨L, n, rfl, hL, hlt, q⟩ := c
  simp only [tb_number_of_word, startD, sSeq, sNil, sIf, sRet, sRetN, sSet, sAsg, sExpr, sNever, sFor, sNox, sBrk, sCont, sFldD, sAug, sAugS, dVar, dC, dOp, dI0, dII, dNeg, dInv, dAndV, dOrV, dNotV, dTst, dTru, dAnd, dOr, dNot, dIfE, dChn, dCall, dCallK, dMake, aNil, aCons, dTup, dLst, dLstH, dFldC, dCB, dBM, tgN, tgSub, iL, iT, iR1, iR2, DEnds.xx, dLc, dLcH, dYes, dSl, oNon, oSome, nI2, nTup, nLst, nLstH, mApp, wipeD, dIn, dIsN, dNotN, dAddH, dMulH, iS, iEnS, iZipD, iZip3D, dIsB, dJoin, dRgT, dRgL, dRgH, dDNew, dDNewT, sDPutD, tru_bl, tru_int, add_int, add_tup, mul_int, len_tup, len_lst, len_fz, ne_int, eq_int, ne_bl, eq_bl, int_int, int_bl, ty_end, asL_lst, asL_fz, asS_tup, asS_lst, asS_fz, tgs_cons_eq, tgs_nil_eq, tg_tup_eq, tg_lst_eq, at_end, set_end, asS_end, asL_end, at_pre, set_pre, ty_pre, dTupRev, asS_tup, asS_lst, rz_end, rz_lst, mulT_tup, min3_eq, List.getElem?_cons_zero, List.getElem?_cons_succ, Option.some.injEq, exists_eq_left', exists_eq_left, exists_and_left, exists_and_right, and_assoc, D.int.injEq, D.bl.injEq, D.str.injEq, D.tup.injEq, D.lst.injEq, D.fz.injEq, D.ref.injEq, HB.lst.injEq, List.cons.injEq, and_true, true_and, List.set_cons_zero, List.set_cons_succ, List.map_cons, List.map_nil, List.length_cons, List.length_nil, Nat.reduceAdd, Nat.reduceSub, Nat.sub_self, Nat.zero_add, List.replicate_zero, List.replicate_succ, List.append_nil, List.cons_append, List.nil_append, decide_eq_true_eq, decide_eq_false_iff_not, Bool.not_eq_true', Bool.not_eq_false', Bool.true_eq_false, Bool.false_eq_true, false_implies, forall_const, true_implies, reduceCtorEq, and_false, false_and, Bool.not_true, Bool.not_false, if_true, if_false, isT_00, isT_01, isT_02, isT_03, isT_04, plB_0, isT_10, isT_11, isT_12, isT_13, isT_14, plB_1, isT_20, isT_21, isT_22, isT_23, isT_24, plB_2, isT_30, isT_31, isT_32, isT_33, isT_34, plB_3, isT_40, isT_41, isT_42, isT_43, isT_44, plB_4, isT_50, isT_51, isT_52, isT_53, isT_54, plB_5, isT_60, isT_61, isT_62, isT_63, isT_64, plB_6, plB_0, plB_1, plB_2, plB_3, plB_4, plB_5, plB_6, isi_00, isi_01, isi_02, isi_03, isi_04, isi_lt_0, isi_tl_0, isi_10, isi_11, isi_12, isi_13, isi_14, isi_lt_1, isi_tl_1, isi_20, isi_21, isi_22, isi_23, isi_24, isi_lt_2, isi_tl_2, isi_30, isi_31, isi_32, isi_33, isi_34, isi_lt_3, isi_tl_3, isi_40, isi_41, isi_42, isi_43, isi_44, isi_lt_4, isi_tl_4, isi_50, isi_51, isi_52, isi_53, isi_54, isi_lt_5, isi_tl_5, isi_60, isi_61, isi_62, isi_63, isi_64, isi_lt_6, isi_tl_6, isN_0, isN_1, isN_2, isN_3, isN_4, isN_5, isN_6, sizeLine_eq, Nat.reduceLeDiff, Nat.reduceLT, Nat.le_refl, Nat.zero_le, wrd]
  refine forW_inv ((bitsN L n).map bitD) (fun i σ h' => h = h' ∧ ∃ o, σ = [some (.tup ((bitsN L n).map bitD)), some (.int (n / 2 ^ (L - i) : Nat)), o]) ⟨rfl, none, ?_⟩ (fun _ _ _ _ _ => trivial) ?_ ?_
  · rw [Nat.sub_zero, Nat.div_eq_of_lt hlt]; rfl
  · rintro i x σ h' N hx ⟨rfl, o, rfl⟩ hN
    obtain ⟨b, hb, rfl, ht, hd2, hm⟩ := get_map hx
    have hi : i < L := by have := (List.getElem?_eq_some_iff.mp hb).1; rwa [bitsN_len] at this
    rw [bitsN_at hi, Option.some.injEq] at hb
    have cm : CMul 2 ((n / 2 ^ (L - i) : Nat) : Int) := .inl ⟨by decide, by decide⟩
    have e : (2 : Int) * ((n / 2 ^ (L - i) : Nat) : Int) + b2D b = ((n / 2 ^ (L - (i + 1)) : Nat) : Int) := by
      have := nat_step n (L - 1 - i)
      rw [show L - 1 - i + 1 = L - i from by omega, hb, show L - 1 - i = L - (i + 1) from by omega] at this
      rw [b2D_nat]; omega
    simp only [sSeq, sNil, sIf, sRet, sRetN, sSet, sAsg, sExpr, sNever, sFor, sNox, sBrk, sCont, sFldD, sAug, sAugS, dVar, dC, dOp, dI0, dII, dNeg, dInv, dAndV, dOrV, dNotV, dTst, dTru, dAnd, dOr, dNot, dIfE, dChn, dCall, dCallK, dMake, aNil, aCons, dTup, dLst, dLstH, dFldC, dCB, dBM, tgN, tgSub, iL, iT, iR1, iR2, DEnds.xx, dLc, dLcH, dYes, dSl, oNon, oSome, nI2, nTup, nLst, nLstH, mApp, wipeD, dIn, dIsN, dNotN, dAddH, dMulH, iS, iEnS, iZipD, iZip3D, dIsB, dJoin, dRgT, dRgL, dRgH, dDNew, dDNewT, sDPutD, tru_bl, tru_int, add_int, add_tup, mul_int, len_tup, len_lst, len_fz, ne_int, eq_int, ne_bl, eq_bl, int_int, int_bl, ty_end, asL_lst, asL_fz, asS_tup, asS_lst, asS_fz, tgs_cons_eq, tgs_nil_eq, tg_tup_eq, tg_lst_eq, at_end, set_end, asS_end, asL_end, at_pre, set_pre, ty_pre, dTupRev, asS_tup, asS_lst, rz_end, rz_lst, mulT_tup, min3_eq, List.getElem?_cons_zero, List.getElem?_cons_succ, Option.some.injEq, exists_eq_left', exists_eq_left, exists_and_left, exists_and_right, and_assoc, D.int.injEq, D.bl.injEq, D.str.injEq, D.tup.injEq, D.lst.injEq, D.fz.injEq, D.ref.injEq, HB.lst.injEq, List.cons.injEq, and_true, true_and, List.set_cons_zero, List.set_cons_succ, List.map_cons, List.map_nil, List.length_cons, List.length_nil, Nat.reduceAdd, Nat.reduceSub, Nat.sub_self, Nat.zero_add, List.replicate_zero, List.replicate_succ, List.append_nil, List.cons_append, List.nil_append, decide_eq_true_eq, decide_eq_false_iff_not, Bool.not_eq_true', Bool.not_eq_false', Bool.true_eq_false, Bool.false_eq_true, false_implies, forall_const, true_implies, reduceCtorEq, and_false, false_and, Bool.not_true, Bool.not_false, if_true, if_false, isT_00, isT_01, isT_02, isT_03, isT_04, plB_0, isT_10, isT_11, isT_12, isT_13, isT_14, plB_1, isT_20, isT_21, isT_22, isT_23, isT_24, plB_2, isT_30, isT_31, isT_32, isT_33, isT_34, plB_3, isT_40, isT_41, isT_42, isT_43, isT_44, plB_4, isT_50, isT_51, isT_52, isT_53, isT_54, plB_5, isT_60, isT_61, isT_62, isT_63, isT_64, plB_6, plB_0, plB_1, plB_2, plB_3, plB_4, plB_5, plB_6, isi_00, isi_01, isi_02, isi_03, isi_04, isi_lt_0, isi_tl_0, isi_10, isi_11, isi_12, isi_13, isi_14, isi_lt_1, isi_tl_1, isi_20, isi_21, isi_22, isi_23, isi_24, isi_lt_2, isi_tl_2, isi_30, isi_31, isi_32, isi_33, isi_34, isi_lt_3, isi_tl_3, isi_40, isi_41, isi_42, isi_43, isi_44, isi_lt_4, isi_tl_4, isi_50, isi_51, isi_52, isi_53, isi_54, isi_lt_5, isi_tl_5, isi_60, isi_61, isi_62, isi_63, isi_64, isi_lt_6, isi_tl_6, isN_0, isN_1, isN_2, isN_3, isN_4, isN_5, isN_6, sizeLine_eq, Nat.reduceLeDiff, Nat.reduceLT, Nat.le_refl, Nat.zero_le, bitD, e]
    exact ⟨cm, hN _ _ ⟨rfl, _, rfl⟩⟩
  · rintro σ h' ⟨rfl, o, rfl⟩
    simp only [sSeq, sNil, sIf, sRet, sRetN, sSet, sAsg, sExpr, sNever, sFor, sNox, sBrk, sCont, sFldD, sAug, sAugS, dVar, dC, dOp, dI0, dII, dNeg, dInv, dAndV, dOrV, dNotV, dTst, dTru, dAnd, dOr, dNot, dIfE, dChn, dCall, dCallK, dMake, aNil, aCons, dTup, dLst, dLstH, dFldC, dCB, dBM, tgN, tgSub, iL, iT, iR1, iR2, DEnds.xx, dLc, dLcH, dYes, dSl, oNon, oSome, nI2, nTup, nLst, nLstH, mApp, wipeD, dIn, dIsN, dNotN, dAddH, dMulH, iS, iEnS, iZipD, iZip3D, dIsB, dJoin, dRgT, dRgL, dRgH, dDNew, dDNewT, sDPutD, tru_bl, tru_int, add_int, add_tup, mul_int, len_tup, len_lst, len_fz, ne_int, eq_int, ne_bl, eq_bl, int_int, int_bl, ty_end, asL_lst, asL_fz, asS_tup, asS_lst, asS_fz, tgs_cons_eq, tgs_nil_eq, tg_tup_eq, tg_lst_eq, at_end, set_end, asS_end, asL_end, at_pre, set_pre, ty_pre, dTupRev, asS_tup, asS_lst, rz_end, rz_lst, mulT_tup, min3_eq, List.getElem?_cons_zero, List.getElem?_cons_succ, Option.some.injEq, exists_eq_left', exists_eq_left, exists_and_left, exists_and_right, and_assoc, D.int.injEq, D.bl.injEq, D.str.injEq, D.tup.injEq, D.lst.injEq, D.fz.injEq, D.ref.injEq, HB.lst.injEq, List.cons.injEq, and_true, true_and, List.set_cons_zero, List.set_cons_succ, List.map_cons, List.map_nil, List.length_cons, List.length_nil, Nat.reduceAdd, Nat.reduceSub, Nat.sub_self, Nat.zero_add, List.replicate_zero, List.replicate_succ, List.append_nil, List.cons_append, List.nil_append, decide_eq_true_eq, decide_eq_false_iff_not, Bool.not_eq_true', Bool.not_eq_false', Bool.true_eq_false, Bool.false_eq_true, false_implies, forall_const, true_implies, reduceCtorEq, and_false, false_and, Bool.not_true, Bool.not_false, if_true, if_false, isT_00, isT_01, isT_02, isT_03, isT_04, plB_0, isT_10, isT_11, isT_12, isT_13, isT_14, plB_1, isT_20, isT_21, isT_22, isT_23, isT_24, plB_2, isT_30, isT_31, isT_32, isT_33, isT_34, plB_3, isT_40, isT_41, isT_42, isT_43, isT_44, plB_4, isT_50, isT_51, isT_52, isT_53, isT_54, plB_5, isT_60, isT_61, isT_62, isT_63, isT_64, plB_6, plB_0, plB_1, plB_2, plB_3, plB_4, plB_5, plB_6, isi_00, isi_01, isi_02, isi_03, isi_04, isi_lt_0, isi_tl_0, isi_10, isi_11, isi_12, isi_13, isi_14, isi_lt_1, isi_tl_1, isi_20, isi_21, isi_22, isi_23, isi_24, isi_lt_2, isi_tl_2, isi_30, isi_31, isi_32, isi_33, isi_34, isi_lt_3, isi_tl_3, isi_40, isi_41, isi_42, isi_43, isi_44, isi_lt_4, isi_tl_4, isi_50, isi_51, isi_52, isi_53, isi_54, isi_lt_5, isi_tl_5, isi_60, isi_61, isi_62, isi_63, isi_64, isi_lt_6, isi_tl_6, isN_0, isN_1, isN_2, isN_3, isN_4, isN_5, isN_6, sizeLine_eq, Nat.reduceLeDiff, Nat.reduceLT, Nat.le_refl, Nat.zero_le]
    have e : (n / 2 ^ (L - ((bitsN L n).map bitD).length)) = n := by rw [List.length_map, bitsN_len, Nat.sub_self]; simp
    rw [e]
    exact rt_keep q
theorem wb_at {L : Nat} {row : List Nat} {k : Nat} (hk : k < row.length) : atI (wsD L row) (k : Int) = some (wdAt L row k) := by
  refine atI_nat ?_
  unfold wsD wdAt
  rw [List.getElem?_map, List.getElem?_eq_getElem hk, List.getD_eq_getElem?_getD, List.getElem?_eq_getElem hk]; rfl
theorem bo_len {L : Nat} {row : List Nat} {h : DHp} {Q : DK} : nFld fc_length "length" (boO L row) h Q ↔ Q (.int L) h := fld_eq (by decide) rfl
theorem bo_ws {L : Nat} {row : List Nat} {h : DHp} {Q : DK} : nFld fc_words "words" (boO L row) h Q ↔ Q (.tup (wsD L row)) h := fld_eq (by decide) rfl
theorem mj_int (a b c : Nat) : Builtin.bitOr (Builtin.bitAnd (a : Int) (b : Int)) (Builtin.bitAnd (Builtin.bitOr (a : Int) (b : Int)) (c : Int)) = ((mj a b c : Nat) : Int) := by
  rw [bAnd, bOr, bAnd, bOr]; rfl
theorem nat_memI {ns : List Nat} {m : Nat} : decide (((m : Nat) : Int) ∈ ns.map fun (n : Nat) => (n : Int)) = decide (m ∈ ns) := by
  refine decide_eq_decide.mpr ⟨fun h => ?_, fun h => List.mem_map.mpr ⟨m, h, rfl⟩⟩
  obtain ⟨n, hn, e⟩ := List.mem_map.mp h
  have : n = m := by omega
  rw [← this]; exact hn
theorem nats_ints (ns : List Nat) : nats ns = (ns.map fun (n : Nat) => (n : Int)).map D.int := by unfold nats; rw [List.map_map]; rfl
theorem rg2_get {lo n i : Nat} {x : D} (h : (rgD (lo : Int) n)[i]? = some x) : x = .int ((lo + i : Nat) : Int) ∧ i < n := by
  unfold rgD at h
  rw [List.getElem?_map] at h
  have hi : i < n := by
    rcases Nat.lt_or_ge i n with z | z
    · exact z
    · rw [List.getElem?_eq_none (by simpa using z)] at h; cases h
  rw [List.getElem?_range hi] at h
  cases h
  exact ⟨by rw [Int.natCast_add], hi⟩
theorem rd_law_word (ds : List D) (h : DHp) (X : DX) (Q : DK) (hn : ds.length = 2) (c : ct__law_word ds h X Q) : tb__law_word (endsD h X Q) (startD N__law_word.length ds) h := by
  obtain ⟨n, L, rfl, hL, q⟩ := c
  simp only [tb__law_word, startD, sSeq, sNil, sIf, sRet, sRetN, sSet, sAsg, sExpr, sNever, sFor, sNox, sBrk, sCont, sFldD, sAug, sAugS, dVar, dC, dOp, dI0, dII, dNeg, dInv, dAndV, dOrV, dNotV, dTst, dTru, dAnd, dOr, dNot, dIfE, dChn, dCall, dCallK, dMake, aNil, aCons, dTup, dLst, dLstH, dFldC, dCB, dBM, tgN, tgSub, iL, iT, iR1, iR2, DEnds.xx, dLc, dLcH, dYes, dSl, oNon, oSome, nI2, nTup, nLst, nLstH, mApp, wipeD, dIn, dIsN, dNotN, dAddH, dMulH, iS, iEnS, iZipD, iZip3D, dIsB, dJoin, dRgT, dRgL, dRgH, dDNew, dDNewT, sDPutD, tru_bl, tru_int, add_int, add_tup, mul_int, len_tup, len_lst, len_fz, ne_int, eq_int, ne_bl, eq_bl, int_int, int_bl, ty_end, asL_lst, asL_fz, asS_tup, asS_lst, asS_fz, tgs_cons_eq, tgs_nil_eq, tg_tup_eq, tg_lst_eq, at_end, set_end, asS_end, asL_end, at_pre, set_pre, ty_pre, dTupRev, asS_tup, asS_lst, rz_end, rz_lst, mulT_tup, min3_eq, List.getElem?_cons_zero, List.getElem?_cons_succ, Option.some.injEq, exists_eq_left', exists_eq_left, exists_and_left, exists_and_right, and_assoc, D.int.injEq, D.bl.injEq, D.str.injEq, D.tup.injEq, D.lst.injEq, D.fz.injEq, D.ref.injEq, HB.lst.injEq, List.cons.injEq, and_true, true_and, List.set_cons_zero, List.set_cons_succ, List.map_cons, List.map_nil, List.length_cons, List.length_nil, Nat.reduceAdd, Nat.reduceSub, Nat.sub_self, Nat.zero_add, List.replicate_zero, List.replicate_succ, List.append_nil, List.cons_append, List.nil_append, decide_eq_true_eq, decide_eq_false_iff_not, Bool.not_eq_true', Bool.not_eq_false', Bool.true_eq_false, Bool.false_eq_true, false_implies, forall_const, true_implies, reduceCtorEq, and_false, false_and, Bool.not_true, Bool.not_false, if_true, if_false, isT_00, isT_01, isT_02, isT_03, isT_04, plB_0, isT_10, isT_11, isT_12, isT_13, isT_14, plB_1, isT_20, isT_21, isT_22, isT_23, isT_24, plB_2, isT_30, isT_31, isT_32, isT_33, isT_34, plB_3, isT_40, isT_41, isT_42, isT_43, isT_44, plB_4, isT_50, isT_51, isT_52, isT_53, isT_54, plB_5, isT_60, isT_61, isT_62, isT_63, isT_64, plB_6, plB_0, plB_1, plB_2, plB_3, plB_4, plB_5, plB_6, isi_00, isi_01, isi_02, isi_03, isi_04, isi_lt_0, isi_tl_0, isi_10, isi_11, isi_12, isi_13, isi_14, isi_lt_1, isi_tl_1, isi_20, isi_21, isi_22, isi_23, isi_24, isi_lt_2, isi_tl_2, isi_30, isi_31, isi_32, isi_33, isi_34, isi_lt_3, isi_tl_3, isi_40, isi_41, isi_42, isi_43, isi_44, isi_lt_4, isi_tl_4, isi_50, isi_51, isi_52, isi_53, isi_54, isi_lt_5, isi_tl_5, isi_60, isi_61, isi_62, isi_63, isi_64, isi_lt_6, isi_tl_6, isN_0, isN_1, isN_2, isN_3, isN_4, isN_5, isN_6, sizeLine_eq, Nat.reduceLeDiff, Nat.reduceLT, Nat.le_refl, Nat.zero_le]
  refine ⟨rgOk (by omega), ?_⟩
  rw [Int.toNat_natCast]
  refine lc_mapT (List.range L) (fun (k : Nat) => D.int (0 + (k : Int))) (fun k => bitD (n.testBit (L - 1 - k))) (fun _ => trivial) (by simp; omega) (fun k hk acc R hz hA => ?_) ?_
  · rw [List.length_range] at hk
    simp only [List.getElem_range, Int.zero_add] at hA ⊢
    have e1 : (L : Int) - 1 - (k : Int) = ((L - 1 - k : Nat) : Int) := by omega
    have e2 : (n : Int) / 2 ^ (L - 1 - k) % 2 = b2D (n.testBit (L - 1 - k)) := by
      rw [bShr, show (((n >>> (L - 1 - k) : Nat) : Int) % 2) = ((n >>> (L - 1 - k) % 2 : Nat) : Int) from by omega, b2D_nat, Nat.shiftRight_eq_div_pow, Nat.testBit_eq_decide_div_mod_eq]
      have : n / 2 ^ (L - 1 - k) % 2 < 2 := Nat.mod_lt _ (by decide)
      rcases (show n / 2 ^ (L - 1 - k) % 2 = 0 ∨ n / 2 ^ (L - 1 - k) % 2 = 1 by omega) with e | e <;> rw [e] <;> rfl
    simp only [sSeq, sNil, sIf, sRet, sRetN, sSet, sAsg, sExpr, sNever, sFor, sNox, sBrk, sCont, sFldD, sAug, sAugS, dVar, dC, dOp, dI0, dII, dNeg, dInv, dAndV, dOrV, dNotV, dTst, dTru, dAnd, dOr, dNot, dIfE, dChn, dCall, dCallK, dMake, aNil, aCons, dTup, dLst, dLstH, dFldC, dCB, dBM, tgN, tgSub, iL, iT, iR1, iR2, DEnds.xx, dLc, dLcH, dYes, dSl, oNon, oSome, nI2, nTup, nLst, nLstH, mApp, wipeD, dIn, dIsN, dNotN, dAddH, dMulH, iS, iEnS, iZipD, iZip3D, dIsB, dJoin, dRgT, dRgL, dRgH, dDNew, dDNewT, sDPutD, tru_bl, tru_int, add_int, add_tup, mul_int, len_tup, len_lst, len_fz, ne_int, eq_int, ne_bl, eq_bl, int_int, int_bl, ty_end, asL_lst, asL_fz, asS_tup, asS_lst, asS_fz, tgs_cons_eq, tgs_nil_eq, tg_tup_eq, tg_lst_eq, at_end, set_end, asS_end, asL_end, at_pre, set_pre, ty_pre, dTupRev, asS_tup, asS_lst, rz_end, rz_lst, mulT_tup, min3_eq, List.getElem?_cons_zero, List.getElem?_cons_succ, Option.some.injEq, exists_eq_left', exists_eq_left, exists_and_left, exists_and_right, and_assoc, D.int.injEq, D.bl.injEq, D.str.injEq, D.tup.injEq, D.lst.injEq, D.fz.injEq, D.ref.injEq, HB.lst.injEq, List.cons.injEq, and_true, true_and, List.set_cons_zero, List.set_cons_succ, List.map_cons, List.map_nil, List.length_cons, List.length_nil, Nat.reduceAdd, Nat.reduceSub, Nat.sub_self, Nat.zero_add, List.replicate_zero, List.replicate_succ, List.append_nil, List.cons_append, List.nil_append, decide_eq_true_eq, decide_eq_false_iff_not, Bool.not_eq_true', Bool.not_eq_false', Bool.true_eq_false, Bool.false_eq_true, false_implies, forall_const, true_implies, reduceCtorEq, and_false, false_and, Bool.not_true, Bool.not_false, if_true, if_false, isT_00, isT_01, isT_02, isT_03, isT_04, plB_0, isT_10, isT_11, isT_12, isT_13, isT_14, plB_1, isT_20, isT_21, isT_22, isT_23, isT_24, plB_2, isT_30, isT_31, isT_32, isT_33, isT_34, plB_3, isT_40, isT_41, isT_42, isT_43, isT_44, plB_4, isT_50, isT_51, isT_52, isT_53, isT_54, plB_5, isT_60, isT_61, isT_62, isT_63, isT_64, plB_6, plB_0, plB_1, plB_2, plB_3, plB_4, plB_5, plB_6, isi_00, isi_01, isi_02, isi_03, isi_04, isi_lt_0, isi_tl_0, isi_10, isi_11, isi_12, isi_13, isi_14, isi_lt_1, isi_tl_1, isi_20, isi_21, isi_22, isi_23, isi_24, isi_lt_2, isi_tl_2, isi_30, isi_31, isi_32, isi_33, isi_34, isi_lt_3, isi_tl_3, isi_40, isi_41, isi_42, isi_43, isi_44, isi_lt_4, isi_tl_4, isi_50, isi_51, isi_52, isi_53, isi_54, isi_lt_5, isi_tl_5, isi_60, isi_61, isi_62, isi_63, isi_64, isi_lt_6, isi_tl_6, isN_0, isN_1, isN_2, isN_3, isN_4, isN_5, isN_6, sizeLine_eq, Nat.reduceLeDiff, Nat.reduceLT, Nat.le_refl, Nat.zero_le, e1, Int.toNat_natCast, e2]
    exact ⟨by omega, by decide, hz, hA⟩
  · refine ⟨_, rfl, Bds_all' fun x hx => ?_, ?_⟩
    · obtain ⟨b, _, rfl⟩ := List.mem_map.mp hx
      trivial
    · have e : (List.range L).map (fun k => bitD (n.testBit (L - 1 - k))) = (bitsN L n).map bitD := by unfold bitsN; rw [List.map_map]; rfl
      rw [e]
      exact rt_keep q
theorem rd_law_majority (ds : List D) (h : DHp) (X : DX) (Q : DK) (hn : ds.length = 3) (c : ct__law_majority ds h X Q) : tb__law_majority (endsD h X Q) (startD N__law_majority.length ds) h := by
  obtain ⟨a, b, c, rfl, q⟩ := c
  simp only [tb__law_majority, startD, sSeq, sNil, sIf, sRet, sRetN, sSet, sAsg, sExpr, sNever, sFor, sNox, sBrk, sCont, sFldD, sAug, sAugS, dVar, dC, dOp, dI0, dII, dNeg, dInv, dAndV, dOrV, dNotV, dTst, dTru, dAnd, dOr, dNot, dIfE, dChn, dCall, dCallK, dMake, aNil, aCons, dTup, dLst, dLstH, dFldC, dCB, dBM, tgN, tgSub, iL, iT, iR1, iR2, DEnds.xx, dLc, dLcH, dYes, dSl, oNon, oSome, nI2, nTup, nLst, nLstH, mApp, wipeD, dIn, dIsN, dNotN, dAddH, dMulH, iS, iEnS, iZipD, iZip3D, dIsB, dJoin, dRgT, dRgL, dRgH, dDNew, dDNewT, sDPutD, tru_bl, tru_int, add_int, add_tup, mul_int, len_tup, len_lst, len_fz, ne_int, eq_int, ne_bl, eq_bl, int_int, int_bl, ty_end, asL_lst, asL_fz, asS_tup, asS_lst, asS_fz, tgs_cons_eq, tgs_nil_eq, tg_tup_eq, tg_lst_eq, at_end, set_end, asS_end, asL_end, at_pre, set_pre, ty_pre, dTupRev, asS_tup, asS_lst, rz_end, rz_lst, mulT_tup, min3_eq, List.getElem?_cons_zero, List.getElem?_cons_succ, Option.some.injEq, exists_eq_left', exists_eq_left, exists_and_left, exists_and_right, and_assoc, D.int.injEq, D.bl.injEq, D.str.injEq, D.tup.injEq, D.lst.injEq, D.fz.injEq, D.ref.injEq, HB.lst.injEq, List.cons.injEq, and_true, true_and, List.set_cons_zero, List.set_cons_succ, List.map_cons, List.map_nil, List.length_cons, List.length_nil, Nat.reduceAdd, Nat.reduceSub, Nat.sub_self, Nat.zero_add, List.replicate_zero, List.replicate_succ, List.append_nil, List.cons_append, List.nil_append, decide_eq_true_eq, decide_eq_false_iff_not, Bool.not_eq_true', Bool.not_eq_false', Bool.true_eq_false, Bool.false_eq_true, false_implies, forall_const, true_implies, reduceCtorEq, and_false, false_and, Bool.not_true, Bool.not_false, if_true, if_false, isT_00, isT_01, isT_02, isT_03, isT_04, plB_0, isT_10, isT_11, isT_12, isT_13, isT_14, plB_1, isT_20, isT_21, isT_22, isT_23, isT_24, plB_2, isT_30, isT_31, isT_32, isT_33, isT_34, plB_3, isT_40, isT_41, isT_42, isT_43, isT_44, plB_4, isT_50, isT_51, isT_52, isT_53, isT_54, plB_5, isT_60, isT_61, isT_62, isT_63, isT_64, plB_6, plB_0, plB_1, plB_2, plB_3, plB_4, plB_5, plB_6, isi_00, isi_01, isi_02, isi_03, isi_04, isi_lt_0, isi_tl_0, isi_10, isi_11, isi_12, isi_13, isi_14, isi_lt_1, isi_tl_1, isi_20, isi_21, isi_22, isi_23, isi_24, isi_lt_2, isi_tl_2, isi_30, isi_31, isi_32, isi_33, isi_34, isi_lt_3, isi_tl_3, isi_40, isi_41, isi_42, isi_43, isi_44, isi_lt_4, isi_tl_4, isi_50, isi_51, isi_52, isi_53, isi_54, isi_lt_5, isi_tl_5, isi_60, isi_61, isi_62, isi_63, isi_64, isi_lt_6, isi_tl_6, isN_0, isN_1, isN_2, isN_3, isN_4, isN_5, isN_6, sizeLine_eq, Nat.reduceLeDiff, Nat.reduceLT, Nat.le_refl, Nat.zero_le, bAnd, bOr, mj_mj]
  exact rt_keep q
theorem wrd_self (w : List Bool) : deq (wrd w) (wrd w) = true := PySem.W.eqv_refl_alike _ (wrd_alk w w)
theorem deq_int {a b : Int} : deq (.int a) (.int b) = decide (a = b) := by show PyData.eqv (.int a) (.int b) = _; simp only [PyData.eqv]; exact Bool.eq_iff_iff.mpr (by simp)
theorem nat_any {row : List Nat} {n : Nat} : ((nats row).any fun z => deq z (.int (n : Nat))) = decide (n ∈ row) := by
  unfold nats
  rw [List.any_map, Bool.eq_iff_iff, List.any_eq_true, decide_eq_true_eq]
  constructor
  · rintro ⟨x, hx, e⟩
    have e' : deq (.int (x : Nat)) (.int (n : Nat)) = true := e
    rw [deq_int, decide_eq_true_eq] at e'
    have : x = n := by omega
    rw [← this]; exact hx
  · intro hx
    refine ⟨n, hx, ?_⟩
    show deq (.int (n : Nat)) (.int (n : Nat)) = true
    rw [deq_int, decide_eq_true rfl]
theorem nats_ok {row : List Nat} : OkD 60 (.lst (nats row)) := fun x hx => by
  obtain ⟨n, _, rfl⟩ := List.mem_map.mp hx
  trivial
theorem perm_nats {ns' : List Int} {row : List Nat} (h : ns'.Perm (row.map fun (n : Nat) => (n : Int))) : ∃ row' : List Nat, ns' = row'.map (fun (n : Nat) => (n : Int)) ∧ row'.Perm row := by
  have e : ns' = (ns'.map Int.toNat).map fun (n : Nat) => (n : Int) := by
    rw [List.map_map]
    refine (List.map_id ns').symm.trans (List.map_congr_left fun x hx => ?_)
    obtain ⟨n, _, rfl⟩ := List.mem_map.mp (h.subset hx)
    rfl
  refine ⟨ns'.map Int.toNat, e, ?_⟩
  have := h.map Int.toNat
  rw [List.map_map] at this
  rwa [show (row.map (Int.toNat ∘ fun (n : Nat) => (n : Int))) = row from (List.map_congr_left fun _ _ => rfl).trans (List.map_id row)] at this
theorem srt_nats {row : List Nat} (h : (row.map fun (n : Nat) => (n : Int)).Pairwise (· ≤ ·)) (nd : row.Nodup) : row.Pairwise (· < ·) := by
  have h1 := List.pairwise_map.mp h
  refine (h1.and nd).imp fun {a b} ⟨le, ne⟩ => ?_
  have : a ≠ b := ne
  omega
theorem rd_law_drawn (ds : List D) (h : DHp) (X : DX) (Q : DK) (hn : ds.length = 4) (c : ct__law_drawn ds h X Q) : tb__law_drawn (endsD h X Q) (startD N__law_drawn.length ds) h := by
  obtain ⟨ns, a, m, L, rfl, hl, ha, hm, hL, q⟩ := c
  have c2 : CMul 2 (m : Int) := .inl ⟨by decide, by decide⟩
  simp only [tb__law_drawn, startD, sSeq, sNil, sIf, sRet, sRetN, sSet, sAsg, sExpr, sNever, sFor, sNox, sBrk, sCont, sFldD, sAug, sAugS, dVar, dC, dOp, dI0, dII, dNeg, dInv, dAndV, dOrV, dNotV, dTst, dTru, dAnd, dOr, dNot, dIfE, dChn, dCall, dCallK, dMake, aNil, aCons, dTup, dLst, dLstH, dFldC, dCB, dBM, tgN, tgSub, iL, iT, iR1, iR2, DEnds.xx, dLc, dLcH, dYes, dSl, oNon, oSome, nI2, nTup, nLst, nLstH, mApp, wipeD, dIn, dIsN, dNotN, dAddH, dMulH, iS, iEnS, iZipD, iZip3D, dIsB, dJoin, dRgT, dRgL, dRgH, dDNew, dDNewT, sDPutD, tru_bl, tru_int, add_int, add_tup, mul_int, len_tup, len_lst, len_fz, ne_int, eq_int, ne_bl, eq_bl, int_int, int_bl, ty_end, asL_lst, asL_fz, asS_tup, asS_lst, asS_fz, tgs_cons_eq, tgs_nil_eq, tg_tup_eq, tg_lst_eq, at_end, set_end, asS_end, asL_end, at_pre, set_pre, ty_pre, dTupRev, asS_tup, asS_lst, rz_end, rz_lst, mulT_tup, min3_eq, List.getElem?_cons_zero, List.getElem?_cons_succ, Option.some.injEq, exists_eq_left', exists_eq_left, exists_and_left, exists_and_right, and_assoc, D.int.injEq, D.bl.injEq, D.str.injEq, D.tup.injEq, D.lst.injEq, D.fz.injEq, D.ref.injEq, HB.lst.injEq, List.cons.injEq, and_true, true_and, List.set_cons_zero, List.set_cons_succ, List.map_cons, List.map_nil, List.length_cons, List.length_nil, Nat.reduceAdd, Nat.reduceSub, Nat.sub_self, Nat.zero_add, List.replicate_zero, List.replicate_succ, List.append_nil, List.cons_append, List.nil_append, decide_eq_true_eq, decide_eq_false_iff_not, Bool.not_eq_true', Bool.not_eq_false', Bool.true_eq_false, Bool.false_eq_true, false_implies, forall_const, true_implies, reduceCtorEq, and_false, false_and, Bool.not_true, Bool.not_false, if_true, if_false, isT_00, isT_01, isT_02, isT_03, isT_04, plB_0, isT_10, isT_11, isT_12, isT_13, isT_14, plB_1, isT_20, isT_21, isT_22, isT_23, isT_24, plB_2, isT_30, isT_31, isT_32, isT_33, isT_34, plB_3, isT_40, isT_41, isT_42, isT_43, isT_44, plB_4, isT_50, isT_51, isT_52, isT_53, isT_54, plB_5, isT_60, isT_61, isT_62, isT_63, isT_64, plB_6, plB_0, plB_1, plB_2, plB_3, plB_4, plB_5, plB_6, isi_00, isi_01, isi_02, isi_03, isi_04, isi_lt_0, isi_tl_0, isi_10, isi_11, isi_12, isi_13, isi_14, isi_lt_1, isi_tl_1, isi_20, isi_21, isi_22, isi_23, isi_24, isi_lt_2, isi_tl_2, isi_30, isi_31, isi_32, isi_33, isi_34, isi_lt_3, isi_tl_3, isi_40, isi_41, isi_42, isi_43, isi_44, isi_lt_4, isi_tl_4, isi_50, isi_51, isi_52, isi_53, isi_54, isi_lt_5, isi_tl_5, isi_60, isi_61, isi_62, isi_63, isi_64, isi_lt_6, isi_tl_6, isN_0, isN_1, isN_2, isN_3, isN_4, isN_5, isN_6, sizeLine_eq, Nat.reduceLeDiff, Nat.reduceLT, Nat.le_refl, Nat.zero_le, c2]
  refine ⟨ns, a, 2 * m, 1048576, by simp, hl, by omega, by decide, by decide, fun r hr hb => ?_⟩
  simp only [sSeq, sNil, sIf, sRet, sRetN, sSet, sAsg, sExpr, sNever, sFor, sNox, sBrk, sCont, sFldD, sAug, sAugS, dVar, dC, dOp, dI0, dII, dNeg, dInv, dAndV, dOrV, dNotV, dTst, dTru, dAnd, dOr, dNot, dIfE, dChn, dCall, dCallK, dMake, aNil, aCons, dTup, dLst, dLstH, dFldC, dCB, dBM, tgN, tgSub, iL, iT, iR1, iR2, DEnds.xx, dLc, dLcH, dYes, dSl, oNon, oSome, nI2, nTup, nLst, nLstH, mApp, wipeD, dIn, dIsN, dNotN, dAddH, dMulH, iS, iEnS, iZipD, iZip3D, dIsB, dJoin, dRgT, dRgL, dRgH, dDNew, dDNewT, sDPutD, tru_bl, tru_int, add_int, add_tup, mul_int, len_tup, len_lst, len_fz, ne_int, eq_int, ne_bl, eq_bl, int_int, int_bl, ty_end, asL_lst, asL_fz, asS_tup, asS_lst, asS_fz, tgs_cons_eq, tgs_nil_eq, tg_tup_eq, tg_lst_eq, at_end, set_end, asS_end, asL_end, at_pre, set_pre, ty_pre, dTupRev, asS_tup, asS_lst, rz_end, rz_lst, mulT_tup, min3_eq, List.getElem?_cons_zero, List.getElem?_cons_succ, Option.some.injEq, exists_eq_left', exists_eq_left, exists_and_left, exists_and_right, and_assoc, D.int.injEq, D.bl.injEq, D.str.injEq, D.tup.injEq, D.lst.injEq, D.fz.injEq, D.ref.injEq, HB.lst.injEq, List.cons.injEq, and_true, true_and, List.set_cons_zero, List.set_cons_succ, List.map_cons, List.map_nil, List.length_cons, List.length_nil, Nat.reduceAdd, Nat.reduceSub, Nat.sub_self, Nat.zero_add, List.replicate_zero, List.replicate_succ, List.append_nil, List.cons_append, List.nil_append, decide_eq_true_eq, decide_eq_false_iff_not, Bool.not_eq_true', Bool.not_eq_false', Bool.true_eq_false, Bool.false_eq_true, false_implies, forall_const, true_implies, reduceCtorEq, and_false, false_and, Bool.not_true, Bool.not_false, if_true, if_false, isT_00, isT_01, isT_02, isT_03, isT_04, plB_0, isT_10, isT_11, isT_12, isT_13, isT_14, plB_1, isT_20, isT_21, isT_22, isT_23, isT_24, plB_2, isT_30, isT_31, isT_32, isT_33, isT_34, plB_3, isT_40, isT_41, isT_42, isT_43, isT_44, plB_4, isT_50, isT_51, isT_52, isT_53, isT_54, plB_5, isT_60, isT_61, isT_62, isT_63, isT_64, plB_6, plB_0, plB_1, plB_2, plB_3, plB_4, plB_5, plB_6, isi_00, isi_01, isi_02, isi_03, isi_04, isi_lt_0, isi_tl_0, isi_10, isi_11, isi_12, isi_13, isi_14, isi_lt_1, isi_tl_1, isi_20, isi_21, isi_22, isi_23, isi_24, isi_lt_2, isi_tl_2, isi_30, isi_31, isi_32, isi_33, isi_34, isi_lt_3, isi_tl_3, isi_40, isi_41, isi_42, isi_43, isi_44, isi_lt_4, isi_tl_4, isi_50, isi_51, isi_52, isi_53, isi_54, isi_lt_5, isi_tl_5, isi_60, isi_61, isi_62, isi_63, isi_64, isi_lt_6, isi_tl_6, isN_0, isN_1, isN_2, isN_3, isN_4, isN_5, isN_6, sizeLine_eq, Nat.reduceLeDiff, Nat.reduceLT, Nat.le_refl, Nat.zero_le]
  refine ⟨rgOk (by omega), ?_⟩
  rw [Int.toNat_natCast]
  refine forW_inv (rgD 0 m) (fun i σ h' => ∃ row o6 o7, h' = h ++ [.lst (nats row)] ∧ row.Nodup ∧ (∀ x ∈ row, x < 2 ^ L) ∧ row.length ≤ i ∧ (0 < i → row ≠ []) ∧ σ = [some (.fz (ns.map D.int)), some (.int a), some (.int m), some (.int L), some (.lst (nats r)), some (.ref h.length), o6, o7]) ⟨[], _, _, rfl, List.nodup_nil, nofun, Nat.le_refl _, fun z => absurd z (Nat.lt_irrefl 0), rfl⟩ (fun _ _ _ _ _ => trivial) ?_ ?_
  · rintro i x σ h' N hx ⟨row, o6, o7, rfl, nd, lt, hlen, hne, rfl⟩ hN
    obtain ⟨rfl, hi⟩ := rg_get hx
    obtain ⟨d0, hd0⟩ := get_lt (l := r) (i := 2 * i) (by omega)
    obtain ⟨d1, hd1⟩ := get_lt (l := r) (i := 2 * i + 1) (by omega)
    have e1 : (2 : Int) * (i : Int) = ((2 * i : Nat) : Int) := by omega
    have e2 : ((2 * i : Nat) : Int) + 1 = ((2 * i + 1 : Nat) : Int) := by omega
    have ci : CMul 2 (i : Int) := .inl ⟨by decide, by decide⟩
    have e3 : ((d0 : Int) * 1048576 + (d1 : Int)) % (1 * 2 ^ L) = (((d0 * 1048576 + d1) % 2 ^ L : Nat) : Int) := by
      rw [Int.one_mul, show (d0 : Int) * 1048576 + (d1 : Int) = ((d0 * 1048576 + d1 : Nat) : Int) from by omega, show (2 : Int) ^ L = ((2 ^ L : Nat) : Int) from (Int.natCast_pow 2 L).symm, mod_nat]
    simp only [sSeq, sNil, sIf, sRet, sRetN, sSet, sAsg, sExpr, sNever, sFor, sNox, sBrk, sCont, sFldD, sAug, sAugS, dVar, dC, dOp, dI0, dII, dNeg, dInv, dAndV, dOrV, dNotV, dTst, dTru, dAnd, dOr, dNot, dIfE, dChn, dCall, dCallK, dMake, aNil, aCons, dTup, dLst, dLstH, dFldC, dCB, dBM, tgN, tgSub, iL, iT, iR1, iR2, DEnds.xx, dLc, dLcH, dYes, dSl, oNon, oSome, nI2, nTup, nLst, nLstH, mApp, wipeD, dIn, dIsN, dNotN, dAddH, dMulH, iS, iEnS, iZipD, iZip3D, dIsB, dJoin, dRgT, dRgL, dRgH, dDNew, dDNewT, sDPutD, tru_bl, tru_int, add_int, add_tup, mul_int, len_tup, len_lst, len_fz, ne_int, eq_int, ne_bl, eq_bl, int_int, int_bl, ty_end, asL_lst, asL_fz, asS_tup, asS_lst, asS_fz, tgs_cons_eq, tgs_nil_eq, tg_tup_eq, tg_lst_eq, at_end, set_end, asS_end, asL_end, at_pre, set_pre, ty_pre, dTupRev, asS_tup, asS_lst, rz_end, rz_lst, mulT_tup, min3_eq, List.getElem?_cons_zero, List.getElem?_cons_succ, Option.some.injEq, exists_eq_left', exists_eq_left, exists_and_left, exists_and_right, and_assoc, D.int.injEq, D.bl.injEq, D.str.injEq, D.tup.injEq, D.lst.injEq, D.fz.injEq, D.ref.injEq, HB.lst.injEq, List.cons.injEq, and_true, true_and, List.set_cons_zero, List.set_cons_succ, List.map_cons, List.map_nil, List.length_cons, List.length_nil, Nat.reduceAdd, Nat.reduceSub, Nat.sub_self, Nat.zero_add, List.replicate_zero, List.replicate_succ, List.append_nil, List.cons_append, List.nil_append, decide_eq_true_eq, decide_eq_false_iff_not, Bool.not_eq_true', Bool.not_eq_false', Bool.true_eq_false, Bool.false_eq_true, false_implies, forall_const, true_implies, reduceCtorEq, and_false, false_and, Bool.not_true, Bool.not_false, if_true, if_false, isT_00, isT_01, isT_02, isT_03, isT_04, plB_0, isT_10, isT_11, isT_12, isT_13, isT_14, plB_1, isT_20, isT_21, isT_22, isT_23, isT_24, plB_2, isT_30, isT_31, isT_32, isT_33, isT_34, plB_3, isT_40, isT_41, isT_42, isT_43, isT_44, plB_4, isT_50, isT_51, isT_52, isT_53, isT_54, plB_5, isT_60, isT_61, isT_62, isT_63, isT_64, plB_6, plB_0, plB_1, plB_2, plB_3, plB_4, plB_5, plB_6, isi_00, isi_01, isi_02, isi_03, isi_04, isi_lt_0, isi_tl_0, isi_10, isi_11, isi_12, isi_13, isi_14, isi_lt_1, isi_tl_1, isi_20, isi_21, isi_22, isi_23, isi_24, isi_lt_2, isi_tl_2, isi_30, isi_31, isi_32, isi_33, isi_34, isi_lt_3, isi_tl_3, isi_40, isi_41, isi_42, isi_43, isi_44, isi_lt_4, isi_tl_4, isi_50, isi_51, isi_52, isi_53, isi_54, isi_lt_5, isi_tl_5, isi_60, isi_61, isi_62, isi_63, isi_64, isi_lt_6, isi_tl_6, isN_0, isN_1, isN_2, isN_3, isN_4, isN_5, isN_6, sizeLine_eq, Nat.reduceLeDiff, Nat.reduceLT, Nat.le_refl, Nat.zero_le, ci, e1, e2, ix_lst (nats_at hd0), ix_lst (nats_at hd1), Int.toNat_natCast, e3, nat_any, nats_len]
    refine ⟨.inr ⟨by decide, by decide⟩, ⟨by omega, by omega, by decide⟩, by rw [Int.one_mul]; exact Int.pow_pos (by decide), trivial, nats_ok, fun z => ⟨by omega, hN _ _ ⟨row ++ [(d0 * 1048576 + d1) % 2 ^ L], _, _, by rw [nats_app]; rfl, ?_, fun x hx => ?_, by rw [List.length_append]; simp only [List.length_singleton]; omega, fun _ => by simp, rfl⟩⟩, fun z => hN _ _ ⟨row, _, _, rfl, nd, lt, by omega, fun _ e => ?_, rfl⟩⟩
    · exact List.nodup_append.mpr ⟨nd, List.nodup_cons.mpr ⟨nofun, List.nodup_nil⟩, fun y hy w hw e => by
        rw [List.mem_singleton.mp hw] at e
        rw [← e] at z
        simp [hy] at z⟩
    · rcases List.mem_append.mp hx with hx | hx
      · exact lt x hx
      · rw [List.mem_singleton.mp hx]; exact Nat.mod_lt _ (Nat.two_pow_pos L)
    · rw [e] at z; simp at z
  · rintro σ h' ⟨row, o6, o7, rfl, nd, lt, hlen, hne, rfl⟩
    rw [rg_len] at hlen hne
    simp only [sSeq, sNil, sIf, sRet, sRetN, sSet, sAsg, sExpr, sNever, sFor, sNox, sBrk, sCont, sFldD, sAug, sAugS, dVar, dC, dOp, dI0, dII, dNeg, dInv, dAndV, dOrV, dNotV, dTst, dTru, dAnd, dOr, dNot, dIfE, dChn, dCall, dCallK, dMake, aNil, aCons, dTup, dLst, dLstH, dFldC, dCB, dBM, tgN, tgSub, iL, iT, iR1, iR2, DEnds.xx, dLc, dLcH, dYes, dSl, oNon, oSome, nI2, nTup, nLst, nLstH, mApp, wipeD, dIn, dIsN, dNotN, dAddH, dMulH, iS, iEnS, iZipD, iZip3D, dIsB, dJoin, dRgT, dRgL, dRgH, dDNew, dDNewT, sDPutD, tru_bl, tru_int, add_int, add_tup, mul_int, len_tup, len_lst, len_fz, ne_int, eq_int, ne_bl, eq_bl, int_int, int_bl, ty_end, asL_lst, asL_fz, asS_tup, asS_lst, asS_fz, tgs_cons_eq, tgs_nil_eq, tg_tup_eq, tg_lst_eq, at_end, set_end, asS_end, asL_end, at_pre, set_pre, ty_pre, dTupRev, asS_tup, asS_lst, rz_end, rz_lst, mulT_tup, min3_eq, List.getElem?_cons_zero, List.getElem?_cons_succ, Option.some.injEq, exists_eq_left', exists_eq_left, exists_and_left, exists_and_right, and_assoc, D.int.injEq, D.bl.injEq, D.str.injEq, D.tup.injEq, D.lst.injEq, D.fz.injEq, D.ref.injEq, HB.lst.injEq, List.cons.injEq, and_true, true_and, List.set_cons_zero, List.set_cons_succ, List.map_cons, List.map_nil, List.length_cons, List.length_nil, Nat.reduceAdd, Nat.reduceSub, Nat.sub_self, Nat.zero_add, List.replicate_zero, List.replicate_succ, List.append_nil, List.cons_append, List.nil_append, decide_eq_true_eq, decide_eq_false_iff_not, Bool.not_eq_true', Bool.not_eq_false', Bool.true_eq_false, Bool.false_eq_true, false_implies, forall_const, true_implies, reduceCtorEq, and_false, false_and, Bool.not_true, Bool.not_false, if_true, if_false, isT_00, isT_01, isT_02, isT_03, isT_04, plB_0, isT_10, isT_11, isT_12, isT_13, isT_14, plB_1, isT_20, isT_21, isT_22, isT_23, isT_24, plB_2, isT_30, isT_31, isT_32, isT_33, isT_34, plB_3, isT_40, isT_41, isT_42, isT_43, isT_44, plB_4, isT_50, isT_51, isT_52, isT_53, isT_54, plB_5, isT_60, isT_61, isT_62, isT_63, isT_64, plB_6, plB_0, plB_1, plB_2, plB_3, plB_4, plB_5, plB_6, isi_00, isi_01, isi_02, isi_03, isi_04, isi_lt_0, isi_tl_0, isi_10, isi_11, isi_12, isi_13, isi_14, isi_lt_1, isi_tl_1, isi_20, isi_21, isi_22, isi_23, isi_24, isi_lt_2, isi_tl_2, isi_30, isi_31, isi_32, isi_33, isi_34, isi_lt_3, isi_tl_3, isi_40, isi_41, isi_42, isi_43, isi_44, isi_lt_4, isi_tl_4, isi_50, isi_51, isi_52, isi_53, isi_54, isi_lt_5, isi_tl_5, isi_60, isi_61, isi_62, isi_63, isi_64, isi_lt_6, isi_tl_6, isN_0, isN_1, isN_2, isN_3, isN_4, isN_5, isN_6, sizeLine_eq, Nat.reduceLeDiff, Nat.reduceLT, Nat.le_refl, Nat.zero_le]
    refine ⟨_, row.map fun (n : Nat) => (n : Int), rfl, by rw [asL_end, nats_ints], fun ns' hp hs => ?_⟩
    obtain ⟨row', e, hp'⟩ := perm_nats hp
    subst e
    rw [← nats_ints]
    refine rt_back Bds_nats (q row' ⟨srt_nats hs (hp'.nodup_iff.mpr nd), fun x hx => lt x (hp'.subset hx)⟩ (by rw [hp'.length_eq]; exact hlen) fun hm e => hne hm ?_)
    rw [e] at hp'
    exact (List.nil_perm.mp hp')
theorem sorted_row {L : Nat} {row : List Nat} {h : DHp} {Q : DK} {d : D} (e : asL h d = some (nats row)) (nd : row.Nodup) (lt : ∀ x ∈ row, x < 2 ^ L) (q : ∀ row', RowN L row' → row'.length = row.length → (row ≠ [] → row' ≠ []) → Q (.lst (nats row')) h) : nSrtI [d] h Q := by
  refine ⟨_, row.map fun (n : Nat) => (n : Int), rfl, by rw [e, nats_ints], fun ns' hp hs => ?_⟩
  obtain ⟨row', e, hp'⟩ := perm_nats hp
  subst e
  rw [← nats_ints]
  refine q row' ⟨srt_nats hs (hp'.nodup_iff.mpr nd), fun x hx => lt x (hp'.subset hx)⟩ hp'.length_eq fun hm e => hm ?_
  rw [e] at hp'
  exact List.nil_perm.mp hp'
theorem get_nat {row : List Nat} {k : Nat} (hk : k < row.length) : atI (nats row) (k : Int) = some (.int (row.getD k 0 : Nat)) := by
  refine nats_at ?_
  rw [List.getD_eq_getElem?_getD, List.getElem?_eq_getElem hk]; rfl
theorem getD_mem {row : List Nat} {k : Nat} (hk : k < row.length) : row.getD k 0 ∈ row := by
  rw [List.getD_eq_getElem?_getD, List.getElem?_eq_getElem hk]; exact List.getElem_mem hk
def numW (l : List Bool) : Nat := l.foldl (fun a b => a * 2 + b.toNat) 0
theorem numW_app (l : List Bool) (b : Bool) : numW (l ++ [b]) = numW l * 2 + b.toNat := by unfold numW; rw [List.foldl_append]; rfl
theorem numW_lt : ∀ (n : Nat) (l : List Bool), l.length = n → numW l < 2 ^ n
  | 0, l, h => by rw [List.eq_nil_of_length_eq_zero h]; decide
  | n + 1, l, h => by
    have hne : l ≠ [] := fun e => by rw [e] at h; cases h
    have e := List.dropLast_concat_getLast hne
    rw [← e, numW_app, Nat.pow_succ]
    have := numW_lt n l.dropLast (by rw [List.length_dropLast]; omega)
    have b1 : (l.getLast hne).toNat ≤ 1 := Bool.toNat_le _
    omega
theorem numW_inj : ∀ (n : Nat) (a b : List Bool), a.length = n → b.length = n → numW a = numW b → a = b
  | 0, a, b, h1, h2, _ => by rw [List.eq_nil_of_length_eq_zero h1, List.eq_nil_of_length_eq_zero h2]
  | n + 1, a, b, h1, h2, e => by
    have na : a ≠ [] := fun e => by rw [e] at h1; cases h1
    have nb : b ≠ [] := fun e => by rw [e] at h2; cases h2
    rw [← List.dropLast_concat_getLast na, ← List.dropLast_concat_getLast nb, numW_app, numW_app] at e
    have b1 : (a.getLast na).toNat ≤ 1 := Bool.toNat_le _
    have b2 : (b.getLast nb).toNat ≤ 1 := Bool.toNat_le _
    have e1 : numW a.dropLast = numW b.dropLast := by omega
    have e2 : (a.getLast na).toNat = (b.getLast nb).toNat := by omega
    have e3 : a.getLast na = b.getLast nb := by
      revert e2
      cases a.getLast na <;> cases b.getLast nb <;> simp
    rw [← List.dropLast_concat_getLast na, ← List.dropLast_concat_getLast nb, numW_inj n _ _ (by rw [List.length_dropLast]; omega) (by rw [List.length_dropLast]; omega) e1, e3]
def mixB (S ord keys : List Nat) (n k : Nat) : Bool := (n / 2 ^ (S.getD (ord.getD k 0 % 64) 0) + keys.getD (5 + k) 0 / 7) % 2 == 1
def mixN (S ord keys : List Nat) (n : Nat) : Nat := numW ((List.range ord.length).map (mixB S ord keys n))
theorem mix_inj {L : Nat} {S ord keys : List Nat} (hS : ∀ b, b < L → S.getD b 0 = b) (hL : L ≤ S.length) (ho : ∀ b, b < S.length → ∃ k, k < ord.length ∧ ord.getD k 0 % 64 = b) {n m : Nat} (hn : n < 2 ^ L) (hm : m < 2 ^ L) (e : mixN S ord keys n = mixN S ord keys m) : n = m := by
  have e1 := numW_inj ord.length _ _ (by rw [List.length_map, List.length_range]) (by rw [List.length_map, List.length_range]) e
  refine Nat.eq_of_testBit_eq fun b => ?_
  rcases Nat.lt_or_ge b L with hb | hb
  · obtain ⟨k, hk, ek⟩ := ho b (by omega)
    have e2 := List.map_inj_left.mp e1 k (List.mem_range.mpr hk)
    unfold mixB at e2
    rw [ek, hS b hb] at e2
    rw [Nat.testBit_eq_decide_div_mod_eq, Nat.testBit_eq_decide_div_mod_eq]
    have e3 : ((n / 2 ^ b + keys.getD (5 + k) 0 / 7) % 2 = 1) = ((m / 2 ^ b + keys.getD (5 + k) 0 / 7) % 2 = 1) := by
      have := Bool.eq_iff_iff.mp e2
      simpa using this
    refine decide_eq_decide.mpr ?_
    have e4 := Eq.to_iff e3
    generalize n / 2 ^ b = x at *
    generalize m / 2 ^ b = y at *
    omega
  · rw [Nat.testBit_lt_two_pow (Nat.lt_of_lt_of_le hn (Nat.pow_le_pow_right (by decide) hb)), Nat.testBit_lt_two_pow (Nat.lt_of_lt_of_le hm (Nat.pow_le_pow_right (by decide) hb))]
theorem ord_perm {M : Nat} {f : Nat → Nat} {ord : List Nat} (hM : M ≤ 64) (hp : ord.Perm ((List.range M).map fun k => f k * 64 + k)) : ord.length = M ∧ (∀ k, k < M → ord.getD k 0 % 64 < M) ∧ ∀ b, b < M → ∃ k, k < ord.length ∧ ord.getD k 0 % 64 = b := by
  have hl : ord.length = M := by rw [hp.length_eq, List.length_map, List.length_range]
  have hq : (ord.map (· % 64)).Perm (List.range M) := by
    have z := hp.map (· % 64)
    rw [List.map_map] at z
    have e : (List.range M).map ((· % 64) ∘ fun k => f k * 64 + k) = List.range M := by
      refine (List.map_congr_left fun k hk => ?_).trans (List.map_id _)
      have := List.mem_range.mp hk
      show (f k * 64 + k) % 64 = k
      omega
    rwa [e] at z
  refine ⟨hl, fun k hk => ?_, fun b hb => ?_⟩
  · have hm : ord.getD k 0 % 64 ∈ ord.map (· % 64) := List.mem_map.mpr ⟨_, getD_mem (by omega), rfl⟩
    exact List.mem_range.mp (hq.subset hm)
  · have hm : b ∈ ord.map (· % 64) := hq.symm.subset (List.mem_range.mpr hb)
    obtain ⟨x, hx, ex⟩ := List.mem_map.mp hm
    obtain ⟨k, hk, ek⟩ := List.getElem_of_mem hx
    refine ⟨k, hk, ?_⟩
    rw [List.getD_eq_getElem?_getD, List.getElem?_eq_getElem hk, ek]; exact ex
theorem rd_law_mixed (ds : List D) (h : DHp) (X : DX) (Q : DK) (hn : ds.length = 3) (c : ct__law_mixed ds h X Q) : tb__law_mixed (endsD h X Q) (startD N__law_mixed.length ds) h := by
  obtain ⟨L, row, keys, rfl, hL, nd, lt, ne, few, kl, kb, q⟩ := c
  have gk : ∀ {k : Nat}, k < 44 → atI (nats keys) (k : Int) = some (.int (keys.getD k 0 : Nat)) := fun {k} hk => get_nat (by omega)
  have g0 : atI (nats keys) 0 = some (.int (keys.getD 0 0 : Nat)) := gk (k := 0) (by decide)
  have e39 : (39 : Int) - (L : Int) = ((39 - L : Nat) : Int) := by omega
  have e4 : ((keys.getD 0 0 : Nat) : Int) % 4 = ((keys.getD 0 0 % 4 : Nat) : Int) := mod_nat _ 4
  simp only [tb__law_mixed, startD, sSeq, sNil, sIf, sRet, sRetN, sSet, sAsg, sExpr, sNever, sFor, sNox, sBrk, sCont, sFldD, sAug, sAugS, dVar, dC, dOp, dI0, dII, dNeg, dInv, dAndV, dOrV, dNotV, dTst, dTru, dAnd, dOr, dNot, dIfE, dChn, dCall, dCallK, dMake, aNil, aCons, dTup, dLst, dLstH, dFldC, dCB, dBM, tgN, tgSub, iL, iT, iR1, iR2, DEnds.xx, dLc, dLcH, dYes, dSl, oNon, oSome, nI2, nTup, nLst, nLstH, mApp, wipeD, dIn, dIsN, dNotN, dAddH, dMulH, iS, iEnS, iZipD, iZip3D, dIsB, dJoin, dRgT, dRgL, dRgH, dDNew, dDNewT, sDPutD, tru_bl, tru_int, add_int, add_tup, mul_int, len_tup, len_lst, len_fz, ne_int, eq_int, ne_bl, eq_bl, int_int, int_bl, ty_end, asL_lst, asL_fz, asS_tup, asS_lst, asS_fz, tgs_cons_eq, tgs_nil_eq, tg_tup_eq, tg_lst_eq, at_end, set_end, asS_end, asL_end, at_pre, set_pre, ty_pre, dTupRev, asS_tup, asS_lst, rz_end, rz_lst, mulT_tup, min3_eq, List.getElem?_cons_zero, List.getElem?_cons_succ, Option.some.injEq, exists_eq_left', exists_eq_left, exists_and_left, exists_and_right, and_assoc, D.int.injEq, D.bl.injEq, D.str.injEq, D.tup.injEq, D.lst.injEq, D.fz.injEq, D.ref.injEq, HB.lst.injEq, List.cons.injEq, and_true, true_and, List.set_cons_zero, List.set_cons_succ, List.map_cons, List.map_nil, List.length_cons, List.length_nil, Nat.reduceAdd, Nat.reduceSub, Nat.sub_self, Nat.zero_add, List.replicate_zero, List.replicate_succ, List.append_nil, List.cons_append, List.nil_append, decide_eq_true_eq, decide_eq_false_iff_not, Bool.not_eq_true', Bool.not_eq_false', Bool.true_eq_false, Bool.false_eq_true, false_implies, forall_const, true_implies, reduceCtorEq, and_false, false_and, Bool.not_true, Bool.not_false, if_true, if_false, isT_00, isT_01, isT_02, isT_03, isT_04, plB_0, isT_10, isT_11, isT_12, isT_13, isT_14, plB_1, isT_20, isT_21, isT_22, isT_23, isT_24, plB_2, isT_30, isT_31, isT_32, isT_33, isT_34, plB_3, isT_40, isT_41, isT_42, isT_43, isT_44, plB_4, isT_50, isT_51, isT_52, isT_53, isT_54, plB_5, isT_60, isT_61, isT_62, isT_63, isT_64, plB_6, plB_0, plB_1, plB_2, plB_3, plB_4, plB_5, plB_6, isi_00, isi_01, isi_02, isi_03, isi_04, isi_lt_0, isi_tl_0, isi_10, isi_11, isi_12, isi_13, isi_14, isi_lt_1, isi_tl_1, isi_20, isi_21, isi_22, isi_23, isi_24, isi_lt_2, isi_tl_2, isi_30, isi_31, isi_32, isi_33, isi_34, isi_lt_3, isi_tl_3, isi_40, isi_41, isi_42, isi_43, isi_44, isi_lt_4, isi_tl_4, isi_50, isi_51, isi_52, isi_53, isi_54, isi_lt_5, isi_tl_5, isi_60, isi_61, isi_62, isi_63, isi_64, isi_lt_6, isi_tl_6, isN_0, isN_1, isN_2, isN_3, isN_4, isN_5, isN_6, sizeLine_eq, Nat.reduceLeDiff, Nat.reduceLT, Nat.le_refl, Nat.zero_le, ix_lst g0, e4, e39, min_nat]
  generalize hE : min (keys.getD 0 0 % 4) (39 - L) = E
  have hE3 : E ≤ 3 := by omega
  have hLE : L + E ≤ 39 := by omega
  refine ⟨by decide, rgOk (by omega), ?_⟩
  rw [Int.toNat_natCast]
  refine lc_mapT (List.range L) (fun (k : Nat) => D.int (0 + (k : Int))) (fun (k : Nat) => D.int (k : Nat)) (fun _ => trivial) (by simp; omega) (fun k hk acc R hz hA => ?_) ?_
  · simp only [List.getElem_range, Int.zero_add] at hA ⊢
    simp only [sSeq, sNil, sIf, sRet, sRetN, sSet, sAsg, sExpr, sNever, sFor, sNox, sBrk, sCont, sFldD, sAug, sAugS, dVar, dC, dOp, dI0, dII, dNeg, dInv, dAndV, dOrV, dNotV, dTst, dTru, dAnd, dOr, dNot, dIfE, dChn, dCall, dCallK, dMake, aNil, aCons, dTup, dLst, dLstH, dFldC, dCB, dBM, tgN, tgSub, iL, iT, iR1, iR2, DEnds.xx, dLc, dLcH, dYes, dSl, oNon, oSome, nI2, nTup, nLst, nLstH, mApp, wipeD, dIn, dIsN, dNotN, dAddH, dMulH, iS, iEnS, iZipD, iZip3D, dIsB, dJoin, dRgT, dRgL, dRgH, dDNew, dDNewT, sDPutD, tru_bl, tru_int, add_int, add_tup, mul_int, len_tup, len_lst, len_fz, ne_int, eq_int, ne_bl, eq_bl, int_int, int_bl, ty_end, asL_lst, asL_fz, asS_tup, asS_lst, asS_fz, tgs_cons_eq, tgs_nil_eq, tg_tup_eq, tg_lst_eq, at_end, set_end, asS_end, asL_end, at_pre, set_pre, ty_pre, dTupRev, asS_tup, asS_lst, rz_end, rz_lst, mulT_tup, min3_eq, List.getElem?_cons_zero, List.getElem?_cons_succ, Option.some.injEq, exists_eq_left', exists_eq_left, exists_and_left, exists_and_right, and_assoc, D.int.injEq, D.bl.injEq, D.str.injEq, D.tup.injEq, D.lst.injEq, D.fz.injEq, D.ref.injEq, HB.lst.injEq, List.cons.injEq, and_true, true_and, List.set_cons_zero, List.set_cons_succ, List.map_cons, List.map_nil, List.length_cons, List.length_nil, Nat.reduceAdd, Nat.reduceSub, Nat.sub_self, Nat.zero_add, List.replicate_zero, List.replicate_succ, List.append_nil, List.cons_append, List.nil_append, decide_eq_true_eq, decide_eq_false_iff_not, Bool.not_eq_true', Bool.not_eq_false', Bool.true_eq_false, Bool.false_eq_true, false_implies, forall_const, true_implies, reduceCtorEq, and_false, false_and, Bool.not_true, Bool.not_false, if_true, if_false, isT_00, isT_01, isT_02, isT_03, isT_04, plB_0, isT_10, isT_11, isT_12, isT_13, isT_14, plB_1, isT_20, isT_21, isT_22, isT_23, isT_24, plB_2, isT_30, isT_31, isT_32, isT_33, isT_34, plB_3, isT_40, isT_41, isT_42, isT_43, isT_44, plB_4, isT_50, isT_51, isT_52, isT_53, isT_54, plB_5, isT_60, isT_61, isT_62, isT_63, isT_64, plB_6, plB_0, plB_1, plB_2, plB_3, plB_4, plB_5, plB_6, isi_00, isi_01, isi_02, isi_03, isi_04, isi_lt_0, isi_tl_0, isi_10, isi_11, isi_12, isi_13, isi_14, isi_lt_1, isi_tl_1, isi_20, isi_21, isi_22, isi_23, isi_24, isi_lt_2, isi_tl_2, isi_30, isi_31, isi_32, isi_33, isi_34, isi_lt_3, isi_tl_3, isi_40, isi_41, isi_42, isi_43, isi_44, isi_lt_4, isi_tl_4, isi_50, isi_51, isi_52, isi_53, isi_54, isi_lt_5, isi_tl_5, isi_60, isi_61, isi_62, isi_63, isi_64, isi_lt_6, isi_tl_6, isN_0, isN_1, isN_2, isN_3, isN_4, isN_5, isN_6, sizeLine_eq, Nat.reduceLeDiff, Nat.reduceLT, Nat.le_refl, Nat.zero_le]
    exact ⟨hz, hA⟩
  refine ⟨_, rfl, Bds_nats (l := List.range L), rgOk (by omega), ?_⟩
  rw [Int.toNat_natCast]
  refine lc_mapT (List.range E) (fun (k : Nat) => D.int (0 + (k : Int))) (fun (k : Nat) => D.int ((keys.getD (1 + k) 0 % (L + 1) : Nat) : Int)) (fun _ => trivial) (by simp; omega) (fun k hk acc R hz hA => ?_) ?_
  · rw [List.length_range] at hk
    simp only [List.getElem_range, Int.zero_add] at hA ⊢
    have e1 : (1 : Int) + (k : Int) = ((1 + k : Nat) : Int) := by omega
    have e2 : ((keys.getD (1 + k) 0 : Nat) : Int) % ((L : Int) + 1) = ((keys.getD (1 + k) 0 % (L + 1) : Nat) : Int) := by rw [show (L : Int) + 1 = ((L + 1 : Nat) : Int) from by omega, mod_nat]
    simp only [sSeq, sNil, sIf, sRet, sRetN, sSet, sAsg, sExpr, sNever, sFor, sNox, sBrk, sCont, sFldD, sAug, sAugS, dVar, dC, dOp, dI0, dII, dNeg, dInv, dAndV, dOrV, dNotV, dTst, dTru, dAnd, dOr, dNot, dIfE, dChn, dCall, dCallK, dMake, aNil, aCons, dTup, dLst, dLstH, dFldC, dCB, dBM, tgN, tgSub, iL, iT, iR1, iR2, DEnds.xx, dLc, dLcH, dYes, dSl, oNon, oSome, nI2, nTup, nLst, nLstH, mApp, wipeD, dIn, dIsN, dNotN, dAddH, dMulH, iS, iEnS, iZipD, iZip3D, dIsB, dJoin, dRgT, dRgL, dRgH, dDNew, dDNewT, sDPutD, tru_bl, tru_int, add_int, add_tup, mul_int, len_tup, len_lst, len_fz, ne_int, eq_int, ne_bl, eq_bl, int_int, int_bl, ty_end, asL_lst, asL_fz, asS_tup, asS_lst, asS_fz, tgs_cons_eq, tgs_nil_eq, tg_tup_eq, tg_lst_eq, at_end, set_end, asS_end, asL_end, at_pre, set_pre, ty_pre, dTupRev, asS_tup, asS_lst, rz_end, rz_lst, mulT_tup, min3_eq, List.getElem?_cons_zero, List.getElem?_cons_succ, Option.some.injEq, exists_eq_left', exists_eq_left, exists_and_left, exists_and_right, and_assoc, D.int.injEq, D.bl.injEq, D.str.injEq, D.tup.injEq, D.lst.injEq, D.fz.injEq, D.ref.injEq, HB.lst.injEq, List.cons.injEq, and_true, true_and, List.set_cons_zero, List.set_cons_succ, List.map_cons, List.map_nil, List.length_cons, List.length_nil, Nat.reduceAdd, Nat.reduceSub, Nat.sub_self, Nat.zero_add, List.replicate_zero, List.replicate_succ, List.append_nil, List.cons_append, List.nil_append, decide_eq_true_eq, decide_eq_false_iff_not, Bool.not_eq_true', Bool.not_eq_false', Bool.true_eq_false, Bool.false_eq_true, false_implies, forall_const, true_implies, reduceCtorEq, and_false, false_and, Bool.not_true, Bool.not_false, if_true, if_false, isT_00, isT_01, isT_02, isT_03, isT_04, plB_0, isT_10, isT_11, isT_12, isT_13, isT_14, plB_1, isT_20, isT_21, isT_22, isT_23, isT_24, plB_2, isT_30, isT_31, isT_32, isT_33, isT_34, plB_3, isT_40, isT_41, isT_42, isT_43, isT_44, plB_4, isT_50, isT_51, isT_52, isT_53, isT_54, plB_5, isT_60, isT_61, isT_62, isT_63, isT_64, plB_6, plB_0, plB_1, plB_2, plB_3, plB_4, plB_5, plB_6, isi_00, isi_01, isi_02, isi_03, isi_04, isi_lt_0, isi_tl_0, isi_10, isi_11, isi_12, isi_13, isi_14, isi_lt_1, isi_tl_1, isi_20, isi_21, isi_22, isi_23, isi_24, isi_lt_2, isi_tl_2, isi_30, isi_31, isi_32, isi_33, isi_34, isi_lt_3, isi_tl_3, isi_40, isi_41, isi_42, isi_43, isi_44, isi_lt_4, isi_tl_4, isi_50, isi_51, isi_52, isi_53, isi_54, isi_lt_5, isi_tl_5, isi_60, isi_61, isi_62, isi_63, isi_64, isi_lt_6, isi_tl_6, isN_0, isN_1, isN_2, isN_3, isN_4, isN_5, isN_6, sizeLine_eq, Nat.reduceLeDiff, Nat.reduceLT, Nat.le_refl, Nat.zero_le, e1, ix_lst (gk (k := 1 + k) (by omega)), e2]
    exact ⟨by omega, hz, hA⟩
  have eS : (List.range L).map (fun (k : Nat) => D.int (k : Nat)) ++ (List.range E).map (fun (k : Nat) => D.int ((keys.getD (1 + k) 0 % (L + 1) : Nat) : Int)) = nats (List.range L ++ (List.range E).map fun k => keys.getD (1 + k) 0 % (L + 1)) := by
    unfold nats
    rw [List.map_append, List.map_map]; rfl
  generalize hS : List.range L ++ (List.range E).map (fun k => keys.getD (1 + k) 0 % (L + 1)) = S at eS
  have lS : S.length = L + E := by rw [← hS, List.length_append, List.length_map, List.length_range, List.length_range]
  have hSb : ∀ b, b < L → S.getD b 0 = b := fun b hb => by
    rw [← hS, List.getD_eq_getElem?_getD, List.getElem?_append_left (by simpa using hb), List.getElem?_range hb]; rfl
  have hSm : ∀ x ∈ S, x ≤ 39 := fun x hx => by
    rw [← hS] at hx
    rcases List.mem_append.mp hx with hx | hx
    · have := List.mem_range.mp hx; omega
    · obtain ⟨k, _, rfl⟩ := List.mem_map.mp hx
      have := Nat.mod_lt (keys.getD (1 + k) 0) (show 0 < L + 1 by omega); omega
  refine ⟨_, rfl, Bds_all' fun x hx => ?_, ?_⟩
  · obtain ⟨k, _, rfl⟩ := List.mem_map.mp hx
    trivial
  have addL : ∀ {a b : List D} {Q : DK}, a.length + b.length ≤ sizeLine → Q (.lst (a ++ b)) h → dAdd (.lst a) (.lst b) h Q := fun hl q => ⟨_, _, rfl, rfl, hl, q⟩
  refine addL (by rw [List.length_map, List.length_map, List.length_range, List.length_range, sizeLine_eq]; omega) ?_
  rw [eS]
  simp only [sSeq, sNil, sIf, sRet, sRetN, sSet, sAsg, sExpr, sNever, sFor, sNox, sBrk, sCont, sFldD, sAug, sAugS, dVar, dC, dOp, dI0, dII, dNeg, dInv, dAndV, dOrV, dNotV, dTst, dTru, dAnd, dOr, dNot, dIfE, dChn, dCall, dCallK, dMake, aNil, aCons, dTup, dLst, dLstH, dFldC, dCB, dBM, tgN, tgSub, iL, iT, iR1, iR2, DEnds.xx, dLc, dLcH, dYes, dSl, oNon, oSome, nI2, nTup, nLst, nLstH, mApp, wipeD, dIn, dIsN, dNotN, dAddH, dMulH, iS, iEnS, iZipD, iZip3D, dIsB, dJoin, dRgT, dRgL, dRgH, dDNew, dDNewT, sDPutD, tru_bl, tru_int, add_int, add_tup, mul_int, len_tup, len_lst, len_fz, ne_int, eq_int, ne_bl, eq_bl, int_int, int_bl, ty_end, asL_lst, asL_fz, asS_tup, asS_lst, asS_fz, tgs_cons_eq, tgs_nil_eq, tg_tup_eq, tg_lst_eq, at_end, set_end, asS_end, asL_end, at_pre, set_pre, ty_pre, dTupRev, asS_tup, asS_lst, rz_end, rz_lst, mulT_tup, min3_eq, List.getElem?_cons_zero, List.getElem?_cons_succ, Option.some.injEq, exists_eq_left', exists_eq_left, exists_and_left, exists_and_right, and_assoc, D.int.injEq, D.bl.injEq, D.str.injEq, D.tup.injEq, D.lst.injEq, D.fz.injEq, D.ref.injEq, HB.lst.injEq, List.cons.injEq, and_true, true_and, List.set_cons_zero, List.set_cons_succ, List.map_cons, List.map_nil, List.length_cons, List.length_nil, Nat.reduceAdd, Nat.reduceSub, Nat.sub_self, Nat.zero_add, List.replicate_zero, List.replicate_succ, List.append_nil, List.cons_append, List.nil_append, decide_eq_true_eq, decide_eq_false_iff_not, Bool.not_eq_true', Bool.not_eq_false', Bool.true_eq_false, Bool.false_eq_true, false_implies, forall_const, true_implies, reduceCtorEq, and_false, false_and, Bool.not_true, Bool.not_false, if_true, if_false, isT_00, isT_01, isT_02, isT_03, isT_04, plB_0, isT_10, isT_11, isT_12, isT_13, isT_14, plB_1, isT_20, isT_21, isT_22, isT_23, isT_24, plB_2, isT_30, isT_31, isT_32, isT_33, isT_34, plB_3, isT_40, isT_41, isT_42, isT_43, isT_44, plB_4, isT_50, isT_51, isT_52, isT_53, isT_54, plB_5, isT_60, isT_61, isT_62, isT_63, isT_64, plB_6, plB_0, plB_1, plB_2, plB_3, plB_4, plB_5, plB_6, isi_00, isi_01, isi_02, isi_03, isi_04, isi_lt_0, isi_tl_0, isi_10, isi_11, isi_12, isi_13, isi_14, isi_lt_1, isi_tl_1, isi_20, isi_21, isi_22, isi_23, isi_24, isi_lt_2, isi_tl_2, isi_30, isi_31, isi_32, isi_33, isi_34, isi_lt_3, isi_tl_3, isi_40, isi_41, isi_42, isi_43, isi_44, isi_lt_4, isi_tl_4, isi_50, isi_51, isi_52, isi_53, isi_54, isi_lt_5, isi_tl_5, isi_60, isi_61, isi_62, isi_63, isi_64, isi_lt_6, isi_tl_6, isN_0, isN_1, isN_2, isN_3, isN_4, isN_5, isN_6, sizeLine_eq, Nat.reduceLeDiff, Nat.reduceLT, Nat.le_refl, Nat.zero_le, nats_len, lS]
  refine ⟨rgOk (by omega), ?_⟩
  rw [Int.toNat_natCast]
  refine lc_mapT (List.range (L + E)) (fun (k : Nat) => D.int (0 + (k : Int))) (fun (k : Nat) => D.int ((keys.getD (5 + k) 0 * 64 + k : Nat) : Int)) (fun _ => trivial) (by simp; omega) (fun k hk acc R hz hA => ?_) ?_
  · rw [List.length_range] at hk
    simp only [List.getElem_range, Int.zero_add] at hA ⊢
    have e1 : (5 : Int) + (k : Int) = ((5 + k : Nat) : Int) := by omega
    have e2 : ((keys.getD (5 + k) 0 : Nat) : Int) * 64 + (k : Int) = ((keys.getD (5 + k) 0 * 64 + k : Nat) : Int) := by omega
    simp only [sSeq, sNil, sIf, sRet, sRetN, sSet, sAsg, sExpr, sNever, sFor, sNox, sBrk, sCont, sFldD, sAug, sAugS, dVar, dC, dOp, dI0, dII, dNeg, dInv, dAndV, dOrV, dNotV, dTst, dTru, dAnd, dOr, dNot, dIfE, dChn, dCall, dCallK, dMake, aNil, aCons, dTup, dLst, dLstH, dFldC, dCB, dBM, tgN, tgSub, iL, iT, iR1, iR2, DEnds.xx, dLc, dLcH, dYes, dSl, oNon, oSome, nI2, nTup, nLst, nLstH, mApp, wipeD, dIn, dIsN, dNotN, dAddH, dMulH, iS, iEnS, iZipD, iZip3D, dIsB, dJoin, dRgT, dRgL, dRgH, dDNew, dDNewT, sDPutD, tru_bl, tru_int, add_int, add_tup, mul_int, len_tup, len_lst, len_fz, ne_int, eq_int, ne_bl, eq_bl, int_int, int_bl, ty_end, asL_lst, asL_fz, asS_tup, asS_lst, asS_fz, tgs_cons_eq, tgs_nil_eq, tg_tup_eq, tg_lst_eq, at_end, set_end, asS_end, asL_end, at_pre, set_pre, ty_pre, dTupRev, asS_tup, asS_lst, rz_end, rz_lst, mulT_tup, min3_eq, List.getElem?_cons_zero, List.getElem?_cons_succ, Option.some.injEq, exists_eq_left', exists_eq_left, exists_and_left, exists_and_right, and_assoc, D.int.injEq, D.bl.injEq, D.str.injEq, D.tup.injEq, D.lst.injEq, D.fz.injEq, D.ref.injEq, HB.lst.injEq, List.cons.injEq, and_true, true_and, List.set_cons_zero, List.set_cons_succ, List.map_cons, List.map_nil, List.length_cons, List.length_nil, Nat.reduceAdd, Nat.reduceSub, Nat.sub_self, Nat.zero_add, List.replicate_zero, List.replicate_succ, List.append_nil, List.cons_append, List.nil_append, decide_eq_true_eq, decide_eq_false_iff_not, Bool.not_eq_true', Bool.not_eq_false', Bool.true_eq_false, Bool.false_eq_true, false_implies, forall_const, true_implies, reduceCtorEq, and_false, false_and, Bool.not_true, Bool.not_false, if_true, if_false, isT_00, isT_01, isT_02, isT_03, isT_04, plB_0, isT_10, isT_11, isT_12, isT_13, isT_14, plB_1, isT_20, isT_21, isT_22, isT_23, isT_24, plB_2, isT_30, isT_31, isT_32, isT_33, isT_34, plB_3, isT_40, isT_41, isT_42, isT_43, isT_44, plB_4, isT_50, isT_51, isT_52, isT_53, isT_54, plB_5, isT_60, isT_61, isT_62, isT_63, isT_64, plB_6, plB_0, plB_1, plB_2, plB_3, plB_4, plB_5, plB_6, isi_00, isi_01, isi_02, isi_03, isi_04, isi_lt_0, isi_tl_0, isi_10, isi_11, isi_12, isi_13, isi_14, isi_lt_1, isi_tl_1, isi_20, isi_21, isi_22, isi_23, isi_24, isi_lt_2, isi_tl_2, isi_30, isi_31, isi_32, isi_33, isi_34, isi_lt_3, isi_tl_3, isi_40, isi_41, isi_42, isi_43, isi_44, isi_lt_4, isi_tl_4, isi_50, isi_51, isi_52, isi_53, isi_54, isi_lt_5, isi_tl_5, isi_60, isi_61, isi_62, isi_63, isi_64, isi_lt_6, isi_tl_6, isN_0, isN_1, isN_2, isN_3, isN_4, isN_5, isN_6, sizeLine_eq, Nat.reduceLeDiff, Nat.reduceLT, Nat.le_refl, Nat.zero_le, e1, ix_lst (gk (k := 5 + k) (by omega)), e2]
    exact ⟨.inr ⟨by decide, by decide⟩, hz, hA⟩
  refine ⟨_, rfl, Bds_all' fun x hx => ?_, ?_⟩
  · obtain ⟨k, _, rfl⟩ := List.mem_map.mp hx
    trivial
  refine ⟨_, (List.range (L + E)).map fun (k : Nat) => ((keys.getD (5 + k) 0 * 64 + k : Nat) : Int), rfl, by rw [List.map_map]; rfl, fun ns' hp _ => ?_⟩
  have hp2 : ns'.Perm (((List.range (L + E)).map fun k => keys.getD (5 + k) 0 * 64 + k).map fun (n : Nat) => (n : Int)) := by rw [List.map_map]; exact hp
  obtain ⟨ord, e, hp'⟩ := perm_nats hp2
  subst e
  rw [← nats_ints]
  obtain ⟨lo, om, ob⟩ := ord_perm (f := fun k => keys.getD (5 + k) 0) (by omega) hp'
  refine forW_inv (nats row) (fun i σ h' => ∃ o5 o8 o9, h' = h ++ [.lst (nats ((row.take i).map (mixN S ord keys)))] ∧ σ = [some (.int L), some (.lst (nats row)), some (.lst (nats keys)), some (.int E), some (.lst (nats S)), o5, some (.lst (nats ord)), some (.ref h.length), o8, o9]) ⟨_, _, _, rfl, rfl⟩ (fun _ _ _ _ _ => rfl) ?_ ?_
  · rintro i x σ h' N hx ⟨o5, o8, o9, rfl, rfl⟩ hN
    obtain ⟨n, hn, rfl, ht, _, hmm⟩ := get_map (f := fun (n : Nat) => D.int (n : Int)) hx
    have hi : i < row.length := (List.getElem?_eq_some_iff.mp hn).1
    simp only [sSeq, sNil, sIf, sRet, sRetN, sSet, sAsg, sExpr, sNever, sFor, sNox, sBrk, sCont, sFldD, sAug, sAugS, dVar, dC, dOp, dI0, dII, dNeg, dInv, dAndV, dOrV, dNotV, dTst, dTru, dAnd, dOr, dNot, dIfE, dChn, dCall, dCallK, dMake, aNil, aCons, dTup, dLst, dLstH, dFldC, dCB, dBM, tgN, tgSub, iL, iT, iR1, iR2, DEnds.xx, dLc, dLcH, dYes, dSl, oNon, oSome, nI2, nTup, nLst, nLstH, mApp, wipeD, dIn, dIsN, dNotN, dAddH, dMulH, iS, iEnS, iZipD, iZip3D, dIsB, dJoin, dRgT, dRgL, dRgH, dDNew, dDNewT, sDPutD, tru_bl, tru_int, add_int, add_tup, mul_int, len_tup, len_lst, len_fz, ne_int, eq_int, ne_bl, eq_bl, int_int, int_bl, ty_end, asL_lst, asL_fz, asS_tup, asS_lst, asS_fz, tgs_cons_eq, tgs_nil_eq, tg_tup_eq, tg_lst_eq, at_end, set_end, asS_end, asL_end, at_pre, set_pre, ty_pre, dTupRev, asS_tup, asS_lst, rz_end, rz_lst, mulT_tup, min3_eq, List.getElem?_cons_zero, List.getElem?_cons_succ, Option.some.injEq, exists_eq_left', exists_eq_left, exists_and_left, exists_and_right, and_assoc, D.int.injEq, D.bl.injEq, D.str.injEq, D.tup.injEq, D.lst.injEq, D.fz.injEq, D.ref.injEq, HB.lst.injEq, List.cons.injEq, and_true, true_and, List.set_cons_zero, List.set_cons_succ, List.map_cons, List.map_nil, List.length_cons, List.length_nil, Nat.reduceAdd, Nat.reduceSub, Nat.sub_self, Nat.zero_add, List.replicate_zero, List.replicate_succ, List.append_nil, List.cons_append, List.nil_append, decide_eq_true_eq, decide_eq_false_iff_not, Bool.not_eq_true', Bool.not_eq_false', Bool.true_eq_false, Bool.false_eq_true, false_implies, forall_const, true_implies, reduceCtorEq, and_false, false_and, Bool.not_true, Bool.not_false, if_true, if_false, isT_00, isT_01, isT_02, isT_03, isT_04, plB_0, isT_10, isT_11, isT_12, isT_13, isT_14, plB_1, isT_20, isT_21, isT_22, isT_23, isT_24, plB_2, isT_30, isT_31, isT_32, isT_33, isT_34, plB_3, isT_40, isT_41, isT_42, isT_43, isT_44, plB_4, isT_50, isT_51, isT_52, isT_53, isT_54, plB_5, isT_60, isT_61, isT_62, isT_63, isT_64, plB_6, plB_0, plB_1, plB_2, plB_3, plB_4, plB_5, plB_6, isi_00, isi_01, isi_02, isi_03, isi_04, isi_lt_0, isi_tl_0, isi_10, isi_11, isi_12, isi_13, isi_14, isi_lt_1, isi_tl_1, isi_20, isi_21, isi_22, isi_23, isi_24, isi_lt_2, isi_tl_2, isi_30, isi_31, isi_32, isi_33, isi_34, isi_lt_3, isi_tl_3, isi_40, isi_41, isi_42, isi_43, isi_44, isi_lt_4, isi_tl_4, isi_50, isi_51, isi_52, isi_53, isi_54, isi_lt_5, isi_tl_5, isi_60, isi_61, isi_62, isi_63, isi_64, isi_lt_6, isi_tl_6, isN_0, isN_1, isN_2, isN_3, isN_4, isN_5, isN_6, sizeLine_eq, Nat.reduceLeDiff, Nat.reduceLT, Nat.le_refl, Nat.zero_le, nats_len]
    refine ⟨rgOk (by omega), ?_⟩
    rw [Int.toNat_natCast]
    have hn2 : n < 2 ^ L := lt n hmm
    refine forW_inv (rgD 0 ord.length) (fun k σ h' => h ++ [.lst (nats ((row.take i).map (mixN S ord keys)))] = h' ∧ ∃ o5, σ = [some (.int L), some (.lst (nats row)), some (.lst (nats keys)), some (.int E), some (.lst (nats S)), o5, some (.lst (nats ord)), some (.ref h.length), some (.int n), some (.int (numW ((List.range k).map (mixB S ord keys n)) : Nat))]) ⟨rfl, _, rfl⟩ (fun _ _ _ _ _ => trivial) ?_ ?_
    · rintro k x σ h' N2 hx ⟨rfl, o5, rfl⟩ hN2
      obtain ⟨rfl, hk⟩ := rg_get hx
      have go := get_nat (row := ord) hk
      have e1 : ((ord.getD k 0 : Nat) : Int) % 64 = ((ord.getD k 0 % 64 : Nat) : Int) := mod_nat _ 64
      have gs := get_nat (row := S) (k := ord.getD k 0 % 64) (by rw [lS]; exact om k (by omega))
      have e2 : (5 : Int) + (k : Int) = ((5 + k : Nat) : Int) := by omega
      have hs39 := hSm _ (getD_mem (row := S) (k := ord.getD k 0 % 64) (by rw [lS]; exact om k (by omega)))
      have e3 : (n : Int) / 2 ^ (S.getD (ord.getD k 0 % 64) 0) = ((n / 2 ^ (S.getD (ord.getD k 0 % 64) 0) : Nat) : Int) := by rw [bShr, Nat.shiftRight_eq_div_pow]
      have e4 : ((n / 2 ^ (S.getD (ord.getD k 0 % 64) 0) : Nat) : Int) + ((keys.getD (5 + k) 0 : Nat) : Int) / 7 = ((n / 2 ^ (S.getD (ord.getD k 0 % 64) 0) + keys.getD (5 + k) 0 / 7 : Nat) : Int) := by
        rw [Int.natCast_add]; congr 1
      have e5 : ((numW ((List.range k).map (mixB S ord keys n)) : Nat) : Int) * 2 + ((n / 2 ^ (S.getD (ord.getD k 0 % 64) 0) + keys.getD (5 + k) 0 / 7 : Nat) : Int) % 2 = ((numW ((List.range (k + 1)).map (mixB S ord keys n)) : Nat) : Int) := by
        rw [List.range_succ, List.map_append, List.map_cons, List.map_nil, numW_app]
        unfold mixB
        generalize n / 2 ^ (S.getD (ord.getD k 0 % 64) 0) + keys.getD (5 + k) 0 / 7 = z
        have hz : z % 2 < 2 := Nat.mod_lt _ (by decide)
        rcases (show z % 2 = 0 ∨ z % 2 = 1 by omega) with e | e <;> rw [e] <;> simp <;> omega
      simp only [sSeq, sNil, sIf, sRet, sRetN, sSet, sAsg, sExpr, sNever, sFor, sNox, sBrk, sCont, sFldD, sAug, sAugS, dVar, dC, dOp, dI0, dII, dNeg, dInv, dAndV, dOrV, dNotV, dTst, dTru, dAnd, dOr, dNot, dIfE, dChn, dCall, dCallK, dMake, aNil, aCons, dTup, dLst, dLstH, dFldC, dCB, dBM, tgN, tgSub, iL, iT, iR1, iR2, DEnds.xx, dLc, dLcH, dYes, dSl, oNon, oSome, nI2, nTup, nLst, nLstH, mApp, wipeD, dIn, dIsN, dNotN, dAddH, dMulH, iS, iEnS, iZipD, iZip3D, dIsB, dJoin, dRgT, dRgL, dRgH, dDNew, dDNewT, sDPutD, tru_bl, tru_int, add_int, add_tup, mul_int, len_tup, len_lst, len_fz, ne_int, eq_int, ne_bl, eq_bl, int_int, int_bl, ty_end, asL_lst, asL_fz, asS_tup, asS_lst, asS_fz, tgs_cons_eq, tgs_nil_eq, tg_tup_eq, tg_lst_eq, at_end, set_end, asS_end, asL_end, at_pre, set_pre, ty_pre, dTupRev, asS_tup, asS_lst, rz_end, rz_lst, mulT_tup, min3_eq, List.getElem?_cons_zero, List.getElem?_cons_succ, Option.some.injEq, exists_eq_left', exists_eq_left, exists_and_left, exists_and_right, and_assoc, D.int.injEq, D.bl.injEq, D.str.injEq, D.tup.injEq, D.lst.injEq, D.fz.injEq, D.ref.injEq, HB.lst.injEq, List.cons.injEq, and_true, true_and, List.set_cons_zero, List.set_cons_succ, List.map_cons, List.map_nil, List.length_cons, List.length_nil, Nat.reduceAdd, Nat.reduceSub, Nat.sub_self, Nat.zero_add, List.replicate_zero, List.replicate_succ, List.append_nil, List.cons_append, List.nil_append, decide_eq_true_eq, decide_eq_false_iff_not, Bool.not_eq_true', Bool.not_eq_false', Bool.true_eq_false, Bool.false_eq_true, false_implies, forall_const, true_implies, reduceCtorEq, and_false, false_and, Bool.not_true, Bool.not_false, if_true, if_false, isT_00, isT_01, isT_02, isT_03, isT_04, plB_0, isT_10, isT_11, isT_12, isT_13, isT_14, plB_1, isT_20, isT_21, isT_22, isT_23, isT_24, plB_2, isT_30, isT_31, isT_32, isT_33, isT_34, plB_3, isT_40, isT_41, isT_42, isT_43, isT_44, plB_4, isT_50, isT_51, isT_52, isT_53, isT_54, plB_5, isT_60, isT_61, isT_62, isT_63, isT_64, plB_6, plB_0, plB_1, plB_2, plB_3, plB_4, plB_5, plB_6, isi_00, isi_01, isi_02, isi_03, isi_04, isi_lt_0, isi_tl_0, isi_10, isi_11, isi_12, isi_13, isi_14, isi_lt_1, isi_tl_1, isi_20, isi_21, isi_22, isi_23, isi_24, isi_lt_2, isi_tl_2, isi_30, isi_31, isi_32, isi_33, isi_34, isi_lt_3, isi_tl_3, isi_40, isi_41, isi_42, isi_43, isi_44, isi_lt_4, isi_tl_4, isi_50, isi_51, isi_52, isi_53, isi_54, isi_lt_5, isi_tl_5, isi_60, isi_61, isi_62, isi_63, isi_64, isi_lt_6, isi_tl_6, isN_0, isN_1, isN_2, isN_3, isN_4, isN_5, isN_6, sizeLine_eq, Nat.reduceLeDiff, Nat.reduceLT, Nat.le_refl, Nat.zero_le, ix_lst go, e1, ix_lst gs, e2, ix_lst (gk (k := 5 + k) (by omega)), Int.toNat_natCast, e3, e4, e5]
      exact ⟨.inr ⟨by decide, by decide⟩, by decide, by omega, ⟨by decide, by decide⟩, by decide, hN2 _ _ ⟨rfl, _, rfl⟩⟩
    · rintro σ h' ⟨rfl, o5, rfl⟩
      rw [rg_len]
      simp only [sSeq, sNil, sIf, sRet, sRetN, sSet, sAsg, sExpr, sNever, sFor, sNox, sBrk, sCont, sFldD, sAug, sAugS, dVar, dC, dOp, dI0, dII, dNeg, dInv, dAndV, dOrV, dNotV, dTst, dTru, dAnd, dOr, dNot, dIfE, dChn, dCall, dCallK, dMake, aNil, aCons, dTup, dLst, dLstH, dFldC, dCB, dBM, tgN, tgSub, iL, iT, iR1, iR2, DEnds.xx, dLc, dLcH, dYes, dSl, oNon, oSome, nI2, nTup, nLst, nLstH, mApp, wipeD, dIn, dIsN, dNotN, dAddH, dMulH, iS, iEnS, iZipD, iZip3D, dIsB, dJoin, dRgT, dRgL, dRgH, dDNew, dDNewT, sDPutD, tru_bl, tru_int, add_int, add_tup, mul_int, len_tup, len_lst, len_fz, ne_int, eq_int, ne_bl, eq_bl, int_int, int_bl, ty_end, asL_lst, asL_fz, asS_tup, asS_lst, asS_fz, tgs_cons_eq, tgs_nil_eq, tg_tup_eq, tg_lst_eq, at_end, set_end, asS_end, asL_end, at_pre, set_pre, ty_pre, dTupRev, asS_tup, asS_lst, rz_end, rz_lst, mulT_tup, min3_eq, List.getElem?_cons_zero, List.getElem?_cons_succ, Option.some.injEq, exists_eq_left', exists_eq_left, exists_and_left, exists_and_right, and_assoc, D.int.injEq, D.bl.injEq, D.str.injEq, D.tup.injEq, D.lst.injEq, D.fz.injEq, D.ref.injEq, HB.lst.injEq, List.cons.injEq, and_true, true_and, List.set_cons_zero, List.set_cons_succ, List.map_cons, List.map_nil, List.length_cons, List.length_nil, Nat.reduceAdd, Nat.reduceSub, Nat.sub_self, Nat.zero_add, List.replicate_zero, List.replicate_succ, List.append_nil, List.cons_append, List.nil_append, decide_eq_true_eq, decide_eq_false_iff_not, Bool.not_eq_true', Bool.not_eq_false', Bool.true_eq_false, Bool.false_eq_true, false_implies, forall_const, true_implies, reduceCtorEq, and_false, false_and, Bool.not_true, Bool.not_false, if_true, if_false, isT_00, isT_01, isT_02, isT_03, isT_04, plB_0, isT_10, isT_11, isT_12, isT_13, isT_14, plB_1, isT_20, isT_21, isT_22, isT_23, isT_24, plB_2, isT_30, isT_31, isT_32, isT_33, isT_34, plB_3, isT_40, isT_41, isT_42, isT_43, isT_44, plB_4, isT_50, isT_51, isT_52, isT_53, isT_54, plB_5, isT_60, isT_61, isT_62, isT_63, isT_64, plB_6, plB_0, plB_1, plB_2, plB_3, plB_4, plB_5, plB_6, isi_00, isi_01, isi_02, isi_03, isi_04, isi_lt_0, isi_tl_0, isi_10, isi_11, isi_12, isi_13, isi_14, isi_lt_1, isi_tl_1, isi_20, isi_21, isi_22, isi_23, isi_24, isi_lt_2, isi_tl_2, isi_30, isi_31, isi_32, isi_33, isi_34, isi_lt_3, isi_tl_3, isi_40, isi_41, isi_42, isi_43, isi_44, isi_lt_4, isi_tl_4, isi_50, isi_51, isi_52, isi_53, isi_54, isi_lt_5, isi_tl_5, isi_60, isi_61, isi_62, isi_63, isi_64, isi_lt_6, isi_tl_6, isN_0, isN_1, isN_2, isN_3, isN_4, isN_5, isN_6, sizeLine_eq, Nat.reduceLeDiff, Nat.reduceLT, Nat.le_refl, Nat.zero_le, nats_len]
      refine ⟨by rw [List.length_map, List.length_take]; omega, hN _ _ ⟨_, _, _, ?_, rfl⟩⟩
      rw [ht, List.map_append, nats_app]; rfl
  · rintro σ h' ⟨o5, o8, o9, rfl, rfl⟩
    rw [nats_len, List.take_length]
    simp only [sSeq, sNil, sIf, sRet, sRetN, sSet, sAsg, sExpr, sNever, sFor, sNox, sBrk, sCont, sFldD, sAug, sAugS, dVar, dC, dOp, dI0, dII, dNeg, dInv, dAndV, dOrV, dNotV, dTst, dTru, dAnd, dOr, dNot, dIfE, dChn, dCall, dCallK, dMake, aNil, aCons, dTup, dLst, dLstH, dFldC, dCB, dBM, tgN, tgSub, iL, iT, iR1, iR2, DEnds.xx, dLc, dLcH, dYes, dSl, oNon, oSome, nI2, nTup, nLst, nLstH, mApp, wipeD, dIn, dIsN, dNotN, dAddH, dMulH, iS, iEnS, iZipD, iZip3D, dIsB, dJoin, dRgT, dRgL, dRgH, dDNew, dDNewT, sDPutD, tru_bl, tru_int, add_int, add_tup, mul_int, len_tup, len_lst, len_fz, ne_int, eq_int, ne_bl, eq_bl, int_int, int_bl, ty_end, asL_lst, asL_fz, asS_tup, asS_lst, asS_fz, tgs_cons_eq, tgs_nil_eq, tg_tup_eq, tg_lst_eq, at_end, set_end, asS_end, asL_end, at_pre, set_pre, ty_pre, dTupRev, asS_tup, asS_lst, rz_end, rz_lst, mulT_tup, min3_eq, List.getElem?_cons_zero, List.getElem?_cons_succ, Option.some.injEq, exists_eq_left', exists_eq_left, exists_and_left, exists_and_right, and_assoc, D.int.injEq, D.bl.injEq, D.str.injEq, D.tup.injEq, D.lst.injEq, D.fz.injEq, D.ref.injEq, HB.lst.injEq, List.cons.injEq, and_true, true_and, List.set_cons_zero, List.set_cons_succ, List.map_cons, List.map_nil, List.length_cons, List.length_nil, Nat.reduceAdd, Nat.reduceSub, Nat.sub_self, Nat.zero_add, List.replicate_zero, List.replicate_succ, List.append_nil, List.cons_append, List.nil_append, decide_eq_true_eq, decide_eq_false_iff_not, Bool.not_eq_true', Bool.not_eq_false', Bool.true_eq_false, Bool.false_eq_true, false_implies, forall_const, true_implies, reduceCtorEq, and_false, false_and, Bool.not_true, Bool.not_false, if_true, if_false, isT_00, isT_01, isT_02, isT_03, isT_04, plB_0, isT_10, isT_11, isT_12, isT_13, isT_14, plB_1, isT_20, isT_21, isT_22, isT_23, isT_24, plB_2, isT_30, isT_31, isT_32, isT_33, isT_34, plB_3, isT_40, isT_41, isT_42, isT_43, isT_44, plB_4, isT_50, isT_51, isT_52, isT_53, isT_54, plB_5, isT_60, isT_61, isT_62, isT_63, isT_64, plB_6, plB_0, plB_1, plB_2, plB_3, plB_4, plB_5, plB_6, isi_00, isi_01, isi_02, isi_03, isi_04, isi_lt_0, isi_tl_0, isi_10, isi_11, isi_12, isi_13, isi_14, isi_lt_1, isi_tl_1, isi_20, isi_21, isi_22, isi_23, isi_24, isi_lt_2, isi_tl_2, isi_30, isi_31, isi_32, isi_33, isi_34, isi_lt_3, isi_tl_3, isi_40, isi_41, isi_42, isi_43, isi_44, isi_lt_4, isi_tl_4, isi_50, isi_51, isi_52, isi_53, isi_54, isi_lt_5, isi_tl_5, isi_60, isi_61, isi_62, isi_63, isi_64, isi_lt_6, isi_tl_6, isN_0, isN_1, isN_2, isN_3, isN_4, isN_5, isN_6, sizeLine_eq, Nat.reduceLeDiff, Nat.reduceLT, Nat.le_refl, Nat.zero_le, nats_len]
    have ndm : (row.map (mixN S ord keys)).Nodup := List.pairwise_map.mpr (nd.imp_of_mem fun {a b} ha hb hab e => hab (mix_inj hSb (by omega) (by rw [lS]; exact ob) (lt a ha) (lt b hb) e))
    refine sorted_row (L := L + E) asL_end ndm (fun x hx => ?_) fun row' rn' len' hne => ?_
    · obtain ⟨n, _, rfl⟩ := List.mem_map.mp hx
      have := numW_lt ord.length ((List.range ord.length).map (mixB S ord keys n)) (by rw [List.length_map, List.length_range])
      rw [lo] at this
      unfold mixN
      rw [lo]; exact this
    · rw [List.length_map] at len'
      have bag : BagOk (L + E) row' := ⟨hLE, rn', hne (by simpa using ne), by omega⟩
      have len1 : (h ++ [HB.lst (nats (row.map (mixN S ord keys)))]).length = h.length + 1 := by simp
      rw [len1, List.append_assoc, lo]
      exact rt_one (i := h.length + 1) (by omega) at2 (FzDs.all ⟨trivial, Bds_nats, trivial⟩) (q (L + E) row' bag)
end L2.MW.K34

namespace L2.MW.K34
open PySem PySem.Spec PyProof.Rows L2 L2.MW
theorem rd_numbers_of (ds : List D) (h : DHp) (X : DX) (Q : DK) (hn : ds.length = 1) (c : ct_numbers_of ds h X Q) : tb_numbers_of (endsD h X Q) (startD N_numbers_of.length ds) h := by
  obtain ⟨L, row, rfl, ok, q⟩ := c
  have few := ok.few
  simp only [tb_numbers_of, startD, sSeq, sNil, sIf, sRet, sRetN, sSet, sAsg, sExpr, sNever, sFor, sNox, sBrk, sCont, sFldD, sAug, sAugS, dVar, dC, dOp, dI0, dII, dNeg, dInv, dAndV, dOrV, dNotV, dTst, dTru, dAnd, dOr, dNot, dIfE, dChn, dCall, dCallK, dMake, aNil, aCons, dTup, dLst, dLstH, dFldC, dCB, dBM, tgN, tgSub, iL, iT, iR1, iR2, DEnds.xx, dLc, dLcH, dYes, dSl, oNon, oSome, nI2, nTup, nLst, nLstH, mApp, wipeD, dIn, dIsN, dNotN, dAddH, dMulH, iS, iEnS, iZipD, iZip3D, dIsB, dJoin, dRgT, dRgL, dRgH, dDNew, dDNewT, sDPutD, tru_bl, tru_int, add_int, add_tup, mul_int, len_tup, len_lst, len_fz, ne_int, eq_int, ne_bl, eq_bl, int_int, int_bl, ty_end, asL_lst, asL_fz, asS_tup, asS_lst, asS_fz, tgs_cons_eq, tgs_nil_eq, tg_tup_eq, tg_lst_eq, at_end, set_end, asS_end, asL_end, at_pre, set_pre, ty_pre, dTupRev, asS_tup, asS_lst, rz_end, rz_lst, mulT_tup, min3_eq, List.getElem?_cons_zero, List.getElem?_cons_succ, Option.some.injEq, exists_eq_left', exists_eq_left, exists_and_left, exists_and_right, and_assoc, D.int.injEq, D.bl.injEq, D.str.injEq, D.tup.injEq, D.lst.injEq, D.fz.injEq, D.ref.injEq, HB.lst.injEq, List.cons.injEq, and_true, true_and, List.set_cons_zero, List.set_cons_succ, List.map_cons, List.map_nil, List.length_cons, List.length_nil, Nat.reduceAdd, Nat.reduceSub, Nat.sub_self, Nat.zero_add, List.replicate_zero, List.replicate_succ, List.append_nil, List.cons_append, List.nil_append, decide_eq_true_eq, decide_eq_false_iff_not, Bool.not_eq_true', Bool.not_eq_false', Bool.true_eq_false, Bool.false_eq_true, false_implies, forall_const, true_implies, reduceCtorEq, and_false, false_and, Bool.not_true, Bool.not_false, if_true, if_false, isT_00, isT_01, isT_02, isT_03, isT_04, plB_0, isT_10, isT_11, isT_12, isT_13, isT_14, plB_1, isT_20, isT_21, isT_22, isT_23, isT_24, plB_2, isT_30, isT_31, isT_32, isT_33, isT_34, plB_3, isT_40, isT_41, isT_42, isT_43, isT_44, plB_4, isT_50, isT_51, isT_52, isT_53, isT_54, plB_5, isT_60, isT_61, isT_62, isT_63, isT_64, plB_6, plB_0, plB_1, plB_2, plB_3, plB_4, plB_5, plB_6, isi_00, isi_01, isi_02, isi_03, isi_04, isi_lt_0, isi_tl_0, isi_10, isi_11, isi_12, isi_13, isi_14, isi_lt_1, isi_tl_1, isi_20, isi_21, isi_22, isi_23, isi_24, isi_lt_2, isi_tl_2, isi_30, isi_31, isi_32, isi_33, isi_34, isi_lt_3, isi_tl_3, isi_40, isi_41, isi_42, isi_43, isi_44, isi_lt_4, isi_tl_4, isi_50, isi_51, isi_52, isi_53, isi_54, isi_lt_5, isi_tl_5, isi_60, isi_61, isi_62, isi_63, isi_64, isi_lt_6, isi_tl_6, isN_0, isN_1, isN_2, isN_3, isN_4, isN_5, isN_6, sizeLine_eq, Nat.reduceLeDiff, Nat.reduceLT, Nat.le_refl, Nat.zero_le, bo_ws]
  refine lc_mapT row (fun n => wrd (bitsN L n)) (fun n => D.int (n : Nat)) (fun _ => trivial) (by omega) (fun i hi acc R hz hA => ?_) ?_
  · simp only [sSeq, sNil, sIf, sRet, sRetN, sSet, sAsg, sExpr, sNever, sFor, sNox, sBrk, sCont, sFldD, sAug, sAugS, dVar, dC, dOp, dI0, dII, dNeg, dInv, dAndV, dOrV, dNotV, dTst, dTru, dAnd, dOr, dNot, dIfE, dChn, dCall, dCallK, dMake, aNil, aCons, dTup, dLst, dLstH, dFldC, dCB, dBM, tgN, tgSub, iL, iT, iR1, iR2, DEnds.xx, dLc, dLcH, dYes, dSl, oNon, oSome, nI2, nTup, nLst, nLstH, mApp, wipeD, dIn, dIsN, dNotN, dAddH, dMulH, iS, iEnS, iZipD, iZip3D, dIsB, dJoin, dRgT, dRgL, dRgH, dDNew, dDNewT, sDPutD, tru_bl, tru_int, add_int, add_tup, mul_int, len_tup, len_lst, len_fz, ne_int, eq_int, ne_bl, eq_bl, int_int, int_bl, ty_end, asL_lst, asL_fz, asS_tup, asS_lst, asS_fz, tgs_cons_eq, tgs_nil_eq, tg_tup_eq, tg_lst_eq, at_end, set_end, asS_end, asL_end, at_pre, set_pre, ty_pre, dTupRev, asS_tup, asS_lst, rz_end, rz_lst, mulT_tup, min3_eq, List.getElem?_cons_zero, List.getElem?_cons_succ, Option.some.injEq, exists_eq_left', exists_eq_left, exists_and_left, exists_and_right, and_assoc, D.int.injEq, D.bl.injEq, D.str.injEq, D.tup.injEq, D.lst.injEq, D.fz.injEq, D.ref.injEq, HB.lst.injEq, List.cons.injEq, and_true, true_and, List.set_cons_zero, List.set_cons_succ, List.map_cons, List.map_nil, List.length_cons, List.length_nil, Nat.reduceAdd, Nat.reduceSub, Nat.sub_self, Nat.zero_add, List.replicate_zero, List.replicate_succ, List.append_nil, List.cons_append, List.nil_append, decide_eq_true_eq, decide_eq_false_iff_not, Bool.not_eq_true', Bool.not_eq_false', Bool.true_eq_false, Bool.false_eq_true, false_implies, forall_const, true_implies, reduceCtorEq, and_false, false_and, Bool.not_true, Bool.not_false, if_true, if_false, isT_00, isT_01, isT_02, isT_03, isT_04, plB_0, isT_10, isT_11, isT_12, isT_13, isT_14, plB_1, isT_20, isT_21, isT_22, isT_23, isT_24, plB_2, isT_30, isT_31, isT_32, isT_33, isT_34, plB_3, isT_40, isT_41, isT_42, isT_43, isT_44, plB_4, isT_50, isT_51, isT_52, isT_53, isT_54, plB_5, isT_60, isT_61, isT_62, isT_63, isT_64, plB_6, plB_0, plB_1, plB_2, plB_3, plB_4, plB_5, plB_6, isi_00, isi_01, isi_02, isi_03, isi_04, isi_lt_0, isi_tl_0, isi_10, isi_11, isi_12, isi_13, isi_14, isi_lt_1, isi_tl_1, isi_20, isi_21, isi_22, isi_23, isi_24, isi_lt_2, isi_tl_2, isi_30, isi_31, isi_32, isi_33, isi_34, isi_lt_3, isi_tl_3, isi_40, isi_41, isi_42, isi_43, isi_44, isi_lt_4, isi_tl_4, isi_50, isi_51, isi_52, isi_53, isi_54, isi_lt_5, isi_tl_5, isi_60, isi_61, isi_62, isi_63, isi_64, isi_lt_6, isi_tl_6, isN_0, isN_1, isN_2, isN_3, isN_4, isN_5, isN_6, sizeLine_eq, Nat.reduceLeDiff, Nat.reduceLT, Nat.le_refl, Nat.zero_le, ct_number_of_word]
    exact ⟨L, row[i], rfl, ok.le, ok.rn.lt _ (List.getElem_mem hi), hz, hA⟩
  · exact rt_one (i := h.length) (Nat.le_refl _) at_end (FzDs.all (Bds_nats (l := row))) q
theorem rd_word_of_number (ds : List D) (h : DHp) (X : DX) (Q : DK) (hn : ds.length = 2) (c : ct_word_of_number ds h X Q) : tb_word_of_number (endsD h X Q) (startD N_word_of_number.length ds) h := by
  obtain ⟨n, L, rfl, hL, q⟩ := c
  simp only [tb_word_of_number, startD, sSeq, sNil, sIf, sRet, sRetN, sSet, sAsg, sExpr, sNever, sFor, sNox, sBrk, sCont, sFldD, sAug, sAugS, dVar, dC, dOp, dI0, dII, dNeg, dInv, dAndV, dOrV, dNotV, dTst, dTru, dAnd, dOr, dNot, dIfE, dChn, dCall, dCallK, dMake, aNil, aCons, dTup, dLst, dLstH, dFldC, dCB, dBM, tgN, tgSub, iL, iT, iR1, iR2, DEnds.xx, dLc, dLcH, dYes, dSl, oNon, oSome, nI2, nTup, nLst, nLstH, mApp, wipeD, dIn, dIsN, dNotN, dAddH, dMulH, iS, iEnS, iZipD, iZip3D, dIsB, dJoin, dRgT, dRgL, dRgH, dDNew, dDNewT, sDPutD, tru_bl, tru_int, add_int, add_tup, mul_int, len_tup, len_lst, len_fz, ne_int, eq_int, ne_bl, eq_bl, int_int, int_bl, ty_end, asL_lst, asL_fz, asS_tup, asS_lst, asS_fz, tgs_cons_eq, tgs_nil_eq, tg_tup_eq, tg_lst_eq, at_end, set_end, asS_end, asL_end, at_pre, set_pre, ty_pre, dTupRev, asS_tup, asS_lst, rz_end, rz_lst, mulT_tup, min3_eq, List.getElem?_cons_zero, List.getElem?_cons_succ, Option.some.injEq, exists_eq_left', exists_eq_left, exists_and_left, exists_and_right, and_assoc, D.int.injEq, D.bl.injEq, D.str.injEq, D.tup.injEq, D.lst.injEq, D.fz.injEq, D.ref.injEq, HB.lst.injEq, List.cons.injEq, and_true, true_and, List.set_cons_zero, List.set_cons_succ, List.map_cons, List.map_nil, List.length_cons, List.length_nil, Nat.reduceAdd, Nat.reduceSub, Nat.sub_self, Nat.zero_add, List.replicate_zero, List.replicate_succ, List.append_nil, List.cons_append, List.nil_append, decide_eq_true_eq, decide_eq_false_iff_not, Bool.not_eq_true', Bool.not_eq_false', Bool.true_eq_false, Bool.false_eq_true, false_implies, forall_const, true_implies, reduceCtorEq, and_false, false_and, Bool.not_true, Bool.not_false, if_true, if_false, isT_00, isT_01, isT_02, isT_03, isT_04, plB_0, isT_10, isT_11, isT_12, isT_13, isT_14, plB_1, isT_20, isT_21, isT_22, isT_23, isT_24, plB_2, isT_30, isT_31, isT_32, isT_33, isT_34, plB_3, isT_40, isT_41, isT_42, isT_43, isT_44, plB_4, isT_50, isT_51, isT_52, isT_53, isT_54, plB_5, isT_60, isT_61, isT_62, isT_63, isT_64, plB_6, plB_0, plB_1, plB_2, plB_3, plB_4, plB_5, plB_6, isi_00, isi_01, isi_02, isi_03, isi_04, isi_lt_0, isi_tl_0, isi_10, isi_11, isi_12, isi_13, isi_14, isi_lt_1, isi_tl_1, isi_20, isi_21, isi_22, isi_23, isi_24, isi_lt_2, isi_tl_2, isi_30, isi_31, isi_32, isi_33, isi_34, isi_lt_3, isi_tl_3, isi_40, isi_41, isi_42, isi_43, isi_44, isi_lt_4, isi_tl_4, isi_50, isi_51, isi_52, isi_53, isi_54, isi_lt_5, isi_tl_5, isi_60, isi_61, isi_62, isi_63, isi_64, isi_lt_6, isi_tl_6, isN_0, isN_1, isN_2, isN_3, isN_4, isN_5, isN_6, sizeLine_eq, Nat.reduceLeDiff, Nat.reduceLT, Nat.le_refl, Nat.zero_le]
  refine ⟨rgOk (by omega), ?_⟩
  rw [Int.toNat_natCast]
  refine lc_mapT (List.range L) (fun (k : Nat) => D.int (0 + (k : Int))) (fun k => bitD (n.testBit (L - 1 - k))) (fun _ => trivial) (by simp; omega) (fun k hk acc R hz hA => ?_) ?_
  · rw [List.length_range] at hk
    simp only [List.getElem_range, Int.zero_add] at hA ⊢
    have e1 : (L : Int) - 1 - (k : Int) = ((L - 1 - k : Nat) : Int) := by omega
    have e2 : Builtin.bitAnd ((n : Int) / 2 ^ (L - 1 - k)) 1 = b2D (n.testBit (L - 1 - k)) := by
      rw [bShr, show (1 : Int) = ((1 : Nat) : Int) from rfl, bAnd, Nat.and_one_is_mod, b2D_nat, Nat.shiftRight_eq_div_pow, Nat.testBit_eq_decide_div_mod_eq]
      have : n / 2 ^ (L - 1 - k) % 2 < 2 := Nat.mod_lt _ (by decide)
      rcases (show n / 2 ^ (L - 1 - k) % 2 = 0 ∨ n / 2 ^ (L - 1 - k) % 2 = 1 by omega) with e | e <;> rw [e] <;> rfl
    simp only [sSeq, sNil, sIf, sRet, sRetN, sSet, sAsg, sExpr, sNever, sFor, sNox, sBrk, sCont, sFldD, sAug, sAugS, dVar, dC, dOp, dI0, dII, dNeg, dInv, dAndV, dOrV, dNotV, dTst, dTru, dAnd, dOr, dNot, dIfE, dChn, dCall, dCallK, dMake, aNil, aCons, dTup, dLst, dLstH, dFldC, dCB, dBM, tgN, tgSub, iL, iT, iR1, iR2, DEnds.xx, dLc, dLcH, dYes, dSl, oNon, oSome, nI2, nTup, nLst, nLstH, mApp, wipeD, dIn, dIsN, dNotN, dAddH, dMulH, iS, iEnS, iZipD, iZip3D, dIsB, dJoin, dRgT, dRgL, dRgH, dDNew, dDNewT, sDPutD, tru_bl, tru_int, add_int, add_tup, mul_int, len_tup, len_lst, len_fz, ne_int, eq_int, ne_bl, eq_bl, int_int, int_bl, ty_end, asL_lst, asL_fz, asS_tup, asS_lst, asS_fz, tgs_cons_eq, tgs_nil_eq, tg_tup_eq, tg_lst_eq, at_end, set_end, asS_end, asL_end, at_pre, set_pre, ty_pre, dTupRev, asS_tup, asS_lst, rz_end, rz_lst, mulT_tup, min3_eq, List.getElem?_cons_zero, List.getElem?_cons_succ, Option.some.injEq, exists_eq_left', exists_eq_left, exists_and_left, exists_and_right, and_assoc, D.int.injEq, D.bl.injEq, D.str.injEq, D.tup.injEq, D.lst.injEq, D.fz.injEq, D.ref.injEq, HB.lst.injEq, List.cons.injEq, and_true, true_and, List.set_cons_zero, List.set_cons_succ, List.map_cons, List.map_nil, List.length_cons, List.length_nil, Nat.reduceAdd, Nat.reduceSub, Nat.sub_self, Nat.zero_add, List.replicate_zero, List.replicate_succ, List.append_nil, List.cons_append, List.nil_append, decide_eq_true_eq, decide_eq_false_iff_not, Bool.not_eq_true', Bool.not_eq_false', Bool.true_eq_false, Bool.false_eq_true, false_implies, forall_const, true_implies, reduceCtorEq, and_false, false_and, Bool.not_true, Bool.not_false, if_true, if_false, isT_00, isT_01, isT_02, isT_03, isT_04, plB_0, isT_10, isT_11, isT_12, isT_13, isT_14, plB_1, isT_20, isT_21, isT_22, isT_23, isT_24, plB_2, isT_30, isT_31, isT_32, isT_33, isT_34, plB_3, isT_40, isT_41, isT_42, isT_43, isT_44, plB_4, isT_50, isT_51, isT_52, isT_53, isT_54, plB_5, isT_60, isT_61, isT_62, isT_63, isT_64, plB_6, plB_0, plB_1, plB_2, plB_3, plB_4, plB_5, plB_6, isi_00, isi_01, isi_02, isi_03, isi_04, isi_lt_0, isi_tl_0, isi_10, isi_11, isi_12, isi_13, isi_14, isi_lt_1, isi_tl_1, isi_20, isi_21, isi_22, isi_23, isi_24, isi_lt_2, isi_tl_2, isi_30, isi_31, isi_32, isi_33, isi_34, isi_lt_3, isi_tl_3, isi_40, isi_41, isi_42, isi_43, isi_44, isi_lt_4, isi_tl_4, isi_50, isi_51, isi_52, isi_53, isi_54, isi_lt_5, isi_tl_5, isi_60, isi_61, isi_62, isi_63, isi_64, isi_lt_6, isi_tl_6, isN_0, isN_1, isN_2, isN_3, isN_4, isN_5, isN_6, sizeLine_eq, Nat.reduceLeDiff, Nat.reduceLT, Nat.le_refl, Nat.zero_le, e1, Int.toNat_natCast, e2]
    exact ⟨by omega, hz, hA⟩
  · refine ⟨_, rfl, Bds_all' fun x hx => ?_, ?_⟩
    · obtain ⟨b, _, rfl⟩ := List.mem_map.mp hx
      trivial
    · have e : (List.range L).map (fun k => bitD (n.testBit (L - 1 - k))) = (bitsN L n).map bitD := by unfold bitsN; rw [List.map_map]; rfl
      rw [e]
      exact rt_keep q
end L2.MW.K34

namespace L2.MW.K34
open PySem PySem.Spec PyProof.Rows L2 L2.MW
theorem isi_bo {L : Nat} {row : List Nat} {h : DHp} {Q : DK} : nIsi kcs [boO L row, .cls "Words"] h Q ↔ Q (.bl true) h := by
  have e4 : isaD kcs (.cls "Words") (.cls "Words") = some true := by simp [isaD, kcs]
  constructor
  · rintro ⟨x, c, t, b, e, ht, _, hb, q⟩
    cases e
    have ht' : some (D.cls "Words") = some t := ht
    cases ht'
    have hb' : isaD kcs (.cls "Words") (.cls "Words") = some b := hb
    rw [e4] at hb'
    cases hb'
    exact q
  · exact fun q => ⟨_, _, .cls "Words", true, rfl, rfl, by show "Words" ∈ kcs; simp [kcs], e4, q⟩
theorem wsd_at {L : Nat} {row : List Nat} {k : Nat} (hk : k < row.length) : atI (wsD L row) (k : Int) = some (.tup ((bitsN L (row.getD k 0)).map bitD)) := wb_at hk
theorem rd_law_plain (ds : List D) (h : DHp) (X : DX) (Q : DK) (hn : ds.length = 3) (c : ct__law_plain ds h X Q) : tb__law_plain (endsD h X Q) (startD N__law_plain.length ds) h := by
  obtain ⟨L, row, rfl, ok, q⟩ := c
  have few := ok.few
  have ll : ∀ n, ((bitsN L n).map bitD).length = L := fun n => by rw [List.length_map, bitsN_len]
  have el : (((L : Nat) : Int) == (L : Int)) = true := beq_self_eq_true _
  have er : (((row.length : Nat) : Int) == (row.length : Int)) = true := beq_self_eq_true _
  simp only [tb__law_plain, startD, sSeq, sNil, sIf, sRet, sRetN, sSet, sAsg, sExpr, sNever, sFor, sNox, sBrk, sCont, sFldD, sAug, sAugS, dVar, dC, dOp, dI0, dII, dNeg, dInv, dAndV, dOrV, dNotV, dTst, dTru, dAnd, dOr, dNot, dIfE, dChn, dCall, dCallK, dMake, aNil, aCons, dTup, dLst, dLstH, dFldC, dCB, dBM, tgN, tgSub, iL, iT, iR1, iR2, DEnds.xx, dLc, dLcH, dYes, dSl, oNon, oSome, nI2, nTup, nLst, nLstH, mApp, wipeD, dIn, dIsN, dNotN, dAddH, dMulH, iS, iEnS, iZipD, iZip3D, dIsB, dJoin, dRgT, dRgL, dRgH, dDNew, dDNewT, sDPutD, tru_bl, tru_int, add_int, add_tup, mul_int, len_tup, len_lst, len_fz, ne_int, eq_int, ne_bl, eq_bl, int_int, int_bl, ty_end, asL_lst, asL_fz, asS_tup, asS_lst, asS_fz, tgs_cons_eq, tgs_nil_eq, tg_tup_eq, tg_lst_eq, at_end, set_end, asS_end, asL_end, at_pre, set_pre, ty_pre, dTupRev, asS_tup, asS_lst, rz_end, rz_lst, mulT_tup, min3_eq, List.getElem?_cons_zero, List.getElem?_cons_succ, Option.some.injEq, exists_eq_left', exists_eq_left, exists_and_left, exists_and_right, and_assoc, D.int.injEq, D.bl.injEq, D.str.injEq, D.tup.injEq, D.lst.injEq, D.fz.injEq, D.ref.injEq, HB.lst.injEq, List.cons.injEq, and_true, true_and, List.set_cons_zero, List.set_cons_succ, List.map_cons, List.map_nil, List.length_cons, List.length_nil, Nat.reduceAdd, Nat.reduceSub, Nat.sub_self, Nat.zero_add, List.replicate_zero, List.replicate_succ, List.append_nil, List.cons_append, List.nil_append, decide_eq_true_eq, decide_eq_false_iff_not, Bool.not_eq_true', Bool.not_eq_false', Bool.true_eq_false, Bool.false_eq_true, false_implies, forall_const, true_implies, reduceCtorEq, and_false, false_and, Bool.not_true, Bool.not_false, if_true, if_false, isT_00, isT_01, isT_02, isT_03, isT_04, plB_0, isT_10, isT_11, isT_12, isT_13, isT_14, plB_1, isT_20, isT_21, isT_22, isT_23, isT_24, plB_2, isT_30, isT_31, isT_32, isT_33, isT_34, plB_3, isT_40, isT_41, isT_42, isT_43, isT_44, plB_4, isT_50, isT_51, isT_52, isT_53, isT_54, plB_5, isT_60, isT_61, isT_62, isT_63, isT_64, plB_6, plB_0, plB_1, plB_2, plB_3, plB_4, plB_5, plB_6, isi_00, isi_01, isi_02, isi_03, isi_04, isi_lt_0, isi_tl_0, isi_10, isi_11, isi_12, isi_13, isi_14, isi_lt_1, isi_tl_1, isi_20, isi_21, isi_22, isi_23, isi_24, isi_lt_2, isi_tl_2, isi_30, isi_31, isi_32, isi_33, isi_34, isi_lt_3, isi_tl_3, isi_40, isi_41, isi_42, isi_43, isi_44, isi_lt_4, isi_tl_4, isi_50, isi_51, isi_52, isi_53, isi_54, isi_lt_5, isi_tl_5, isi_60, isi_61, isi_62, isi_63, isi_64, isi_lt_6, isi_tl_6, isN_0, isN_1, isN_2, isN_3, isN_4, isN_5, isN_6, sizeLine_eq, Nat.reduceLeDiff, Nat.reduceLT, Nat.le_refl, Nat.zero_le, isi_bo, bo_len, bo_ws, ws_len, nats_len, el, er]
  refine ⟨rgOk (by omega), ?_⟩
  rw [Int.toNat_natCast]
  refine forW_inv (rgD 0 row.length) (fun _ σ h' => h = h' ∧ ∃ o3 o4 o5, σ = [some (boO L row), some (.int L), some (.lst (nats row)), o3, o4, o5]) ⟨rfl, _, _, _, rfl⟩ (fun _ _ _ _ _ => trivial) ?_ ?_
  · rintro k x σ h' N hx ⟨rfl, o3, o4, o5, rfl⟩ hN
    obtain ⟨rfl, hk⟩ := rg_get hx
    simp only [sSeq, sNil, sIf, sRet, sRetN, sSet, sAsg, sExpr, sNever, sFor, sNox, sBrk, sCont, sFldD, sAug, sAugS, dVar, dC, dOp, dI0, dII, dNeg, dInv, dAndV, dOrV, dNotV, dTst, dTru, dAnd, dOr, dNot, dIfE, dChn, dCall, dCallK, dMake, aNil, aCons, dTup, dLst, dLstH, dFldC, dCB, dBM, tgN, tgSub, iL, iT, iR1, iR2, DEnds.xx, dLc, dLcH, dYes, dSl, oNon, oSome, nI2, nTup, nLst, nLstH, mApp, wipeD, dIn, dIsN, dNotN, dAddH, dMulH, iS, iEnS, iZipD, iZip3D, dIsB, dJoin, dRgT, dRgL, dRgH, dDNew, dDNewT, sDPutD, tru_bl, tru_int, add_int, add_tup, mul_int, len_tup, len_lst, len_fz, ne_int, eq_int, ne_bl, eq_bl, int_int, int_bl, ty_end, asL_lst, asL_fz, asS_tup, asS_lst, asS_fz, tgs_cons_eq, tgs_nil_eq, tg_tup_eq, tg_lst_eq, at_end, set_end, asS_end, asL_end, at_pre, set_pre, ty_pre, dTupRev, asS_tup, asS_lst, rz_end, rz_lst, mulT_tup, min3_eq, List.getElem?_cons_zero, List.getElem?_cons_succ, Option.some.injEq, exists_eq_left', exists_eq_left, exists_and_left, exists_and_right, and_assoc, D.int.injEq, D.bl.injEq, D.str.injEq, D.tup.injEq, D.lst.injEq, D.fz.injEq, D.ref.injEq, HB.lst.injEq, List.cons.injEq, and_true, true_and, List.set_cons_zero, List.set_cons_succ, List.map_cons, List.map_nil, List.length_cons, List.length_nil, Nat.reduceAdd, Nat.reduceSub, Nat.sub_self, Nat.zero_add, List.replicate_zero, List.replicate_succ, List.append_nil, List.cons_append, List.nil_append, decide_eq_true_eq, decide_eq_false_iff_not, Bool.not_eq_true', Bool.not_eq_false', Bool.true_eq_false, Bool.false_eq_true, false_implies, forall_const, true_implies, reduceCtorEq, and_false, false_and, Bool.not_true, Bool.not_false, if_true, if_false, isT_00, isT_01, isT_02, isT_03, isT_04, plB_0, isT_10, isT_11, isT_12, isT_13, isT_14, plB_1, isT_20, isT_21, isT_22, isT_23, isT_24, plB_2, isT_30, isT_31, isT_32, isT_33, isT_34, plB_3, isT_40, isT_41, isT_42, isT_43, isT_44, plB_4, isT_50, isT_51, isT_52, isT_53, isT_54, plB_5, isT_60, isT_61, isT_62, isT_63, isT_64, plB_6, plB_0, plB_1, plB_2, plB_3, plB_4, plB_5, plB_6, isi_00, isi_01, isi_02, isi_03, isi_04, isi_lt_0, isi_tl_0, isi_10, isi_11, isi_12, isi_13, isi_14, isi_lt_1, isi_tl_1, isi_20, isi_21, isi_22, isi_23, isi_24, isi_lt_2, isi_tl_2, isi_30, isi_31, isi_32, isi_33, isi_34, isi_lt_3, isi_tl_3, isi_40, isi_41, isi_42, isi_43, isi_44, isi_lt_4, isi_tl_4, isi_50, isi_51, isi_52, isi_53, isi_54, isi_lt_5, isi_tl_5, isi_60, isi_61, isi_62, isi_63, isi_64, isi_lt_6, isi_tl_6, isN_0, isN_1, isN_2, isN_3, isN_4, isN_5, isN_6, sizeLine_eq, Nat.reduceLeDiff, Nat.reduceLT, Nat.le_refl, Nat.zero_le, bo_ws, ix_tup (wsd_at hk), ll, el]
    refine forW_inv ((bitsN L (row.getD k 0)).map bitD) (fun _ σ h' => h = h' ∧ ∃ o5, σ = [some (boO L row), some (.int L), some (.lst (nats row)), some (.int k), some (.tup ((bitsN L (row.getD k 0)).map bitD)), o5]) ⟨rfl, _, rfl⟩ (fun _ _ _ _ _ => trivial) ?_ ?_
    · rintro u x σ h' N2 hx ⟨rfl, o5, rfl⟩ hN2
      obtain ⟨c, hc, rfl, _, _, _⟩ := get_map hx
      simp only [sSeq, sNil, sIf, sRet, sRetN, sSet, sAsg, sExpr, sNever, sFor, sNox, sBrk, sCont, sFldD, sAug, sAugS, dVar, dC, dOp, dI0, dII, dNeg, dInv, dAndV, dOrV, dNotV, dTst, dTru, dAnd, dOr, dNot, dIfE, dChn, dCall, dCallK, dMake, aNil, aCons, dTup, dLst, dLstH, dFldC, dCB, dBM, tgN, tgSub, iL, iT, iR1, iR2, DEnds.xx, dLc, dLcH, dYes, dSl, oNon, oSome, nI2, nTup, nLst, nLstH, mApp, wipeD, dIn, dIsN, dNotN, dAddH, dMulH, iS, iEnS, iZipD, iZip3D, dIsB, dJoin, dRgT, dRgL, dRgH, dDNew, dDNewT, sDPutD, tru_bl, tru_int, add_int, add_tup, mul_int, len_tup, len_lst, len_fz, ne_int, eq_int, ne_bl, eq_bl, int_int, int_bl, ty_end, asL_lst, asL_fz, asS_tup, asS_lst, asS_fz, tgs_cons_eq, tgs_nil_eq, tg_tup_eq, tg_lst_eq, at_end, set_end, asS_end, asL_end, at_pre, set_pre, ty_pre, dTupRev, asS_tup, asS_lst, rz_end, rz_lst, mulT_tup, min3_eq, List.getElem?_cons_zero, List.getElem?_cons_succ, Option.some.injEq, exists_eq_left', exists_eq_left, exists_and_left, exists_and_right, and_assoc, D.int.injEq, D.bl.injEq, D.str.injEq, D.tup.injEq, D.lst.injEq, D.fz.injEq, D.ref.injEq, HB.lst.injEq, List.cons.injEq, and_true, true_and, List.set_cons_zero, List.set_cons_succ, List.map_cons, List.map_nil, List.length_cons, List.length_nil, Nat.reduceAdd, Nat.reduceSub, Nat.sub_self, Nat.zero_add, List.replicate_zero, List.replicate_succ, List.append_nil, List.cons_append, List.nil_append, decide_eq_true_eq, decide_eq_false_iff_not, Bool.not_eq_true', Bool.not_eq_false', Bool.true_eq_false, Bool.false_eq_true, false_implies, forall_const, true_implies, reduceCtorEq, and_false, false_and, Bool.not_true, Bool.not_false, if_true, if_false, isT_00, isT_01, isT_02, isT_03, isT_04, plB_0, isT_10, isT_11, isT_12, isT_13, isT_14, plB_1, isT_20, isT_21, isT_22, isT_23, isT_24, plB_2, isT_30, isT_31, isT_32, isT_33, isT_34, plB_3, isT_40, isT_41, isT_42, isT_43, isT_44, plB_4, isT_50, isT_51, isT_52, isT_53, isT_54, plB_5, isT_60, isT_61, isT_62, isT_63, isT_64, plB_6, plB_0, plB_1, plB_2, plB_3, plB_4, plB_5, plB_6, isi_00, isi_01, isi_02, isi_03, isi_04, isi_lt_0, isi_tl_0, isi_10, isi_11, isi_12, isi_13, isi_14, isi_lt_1, isi_tl_1, isi_20, isi_21, isi_22, isi_23, isi_24, isi_lt_2, isi_tl_2, isi_30, isi_31, isi_32, isi_33, isi_34, isi_lt_3, isi_tl_3, isi_40, isi_41, isi_42, isi_43, isi_44, isi_lt_4, isi_tl_4, isi_50, isi_51, isi_52, isi_53, isi_54, isi_lt_5, isi_tl_5, isi_60, isi_61, isi_62, isi_63, isi_64, isi_lt_6, isi_tl_6, isN_0, isN_1, isN_2, isN_3, isN_4, isN_5, isN_6, sizeLine_eq, Nat.reduceLeDiff, Nat.reduceLT, Nat.le_refl, Nat.zero_le, bitD]
      exact hN2 _ _ ⟨rfl, _, rfl⟩
    · rintro σ h' ⟨rfl, o5, rfl⟩
      simp only [sSeq, sNil, sIf, sRet, sRetN, sSet, sAsg, sExpr, sNever, sFor, sNox, sBrk, sCont, sFldD, sAug, sAugS, dVar, dC, dOp, dI0, dII, dNeg, dInv, dAndV, dOrV, dNotV, dTst, dTru, dAnd, dOr, dNot, dIfE, dChn, dCall, dCallK, dMake, aNil, aCons, dTup, dLst, dLstH, dFldC, dCB, dBM, tgN, tgSub, iL, iT, iR1, iR2, DEnds.xx, dLc, dLcH, dYes, dSl, oNon, oSome, nI2, nTup, nLst, nLstH, mApp, wipeD, dIn, dIsN, dNotN, dAddH, dMulH, iS, iEnS, iZipD, iZip3D, dIsB, dJoin, dRgT, dRgL, dRgH, dDNew, dDNewT, sDPutD, tru_bl, tru_int, add_int, add_tup, mul_int, len_tup, len_lst, len_fz, ne_int, eq_int, ne_bl, eq_bl, int_int, int_bl, ty_end, asL_lst, asL_fz, asS_tup, asS_lst, asS_fz, tgs_cons_eq, tgs_nil_eq, tg_tup_eq, tg_lst_eq, at_end, set_end, asS_end, asL_end, at_pre, set_pre, ty_pre, dTupRev, asS_tup, asS_lst, rz_end, rz_lst, mulT_tup, min3_eq, List.getElem?_cons_zero, List.getElem?_cons_succ, Option.some.injEq, exists_eq_left', exists_eq_left, exists_and_left, exists_and_right, and_assoc, D.int.injEq, D.bl.injEq, D.str.injEq, D.tup.injEq, D.lst.injEq, D.fz.injEq, D.ref.injEq, HB.lst.injEq, List.cons.injEq, and_true, true_and, List.set_cons_zero, List.set_cons_succ, List.map_cons, List.map_nil, List.length_cons, List.length_nil, Nat.reduceAdd, Nat.reduceSub, Nat.sub_self, Nat.zero_add, List.replicate_zero, List.replicate_succ, List.append_nil, List.cons_append, List.nil_append, decide_eq_true_eq, decide_eq_false_iff_not, Bool.not_eq_true', Bool.not_eq_false', Bool.true_eq_false, Bool.false_eq_true, false_implies, forall_const, true_implies, reduceCtorEq, and_false, false_and, Bool.not_true, Bool.not_false, if_true, if_false, isT_00, isT_01, isT_02, isT_03, isT_04, plB_0, isT_10, isT_11, isT_12, isT_13, isT_14, plB_1, isT_20, isT_21, isT_22, isT_23, isT_24, plB_2, isT_30, isT_31, isT_32, isT_33, isT_34, plB_3, isT_40, isT_41, isT_42, isT_43, isT_44, plB_4, isT_50, isT_51, isT_52, isT_53, isT_54, plB_5, isT_60, isT_61, isT_62, isT_63, isT_64, plB_6, plB_0, plB_1, plB_2, plB_3, plB_4, plB_5, plB_6, isi_00, isi_01, isi_02, isi_03, isi_04, isi_lt_0, isi_tl_0, isi_10, isi_11, isi_12, isi_13, isi_14, isi_lt_1, isi_tl_1, isi_20, isi_21, isi_22, isi_23, isi_24, isi_lt_2, isi_tl_2, isi_30, isi_31, isi_32, isi_33, isi_34, isi_lt_3, isi_tl_3, isi_40, isi_41, isi_42, isi_43, isi_44, isi_lt_4, isi_tl_4, isi_50, isi_51, isi_52, isi_53, isi_54, isi_lt_5, isi_tl_5, isi_60, isi_61, isi_62, isi_63, isi_64, isi_lt_6, isi_tl_6, isN_0, isN_1, isN_2, isN_3, isN_4, isN_5, isN_6, sizeLine_eq, Nat.reduceLeDiff, Nat.reduceLT, Nat.le_refl, Nat.zero_le, ix_lst (get_nat hk), ct__law_word]
      refine ⟨row.getD k 0, rfl, L, rfl, ok.le, (wrd_ok (bitsN L (row.getD k 0))).up (by decide), (wrd_ok _).up (by decide), false, ?_, (fun z => nomatch z), fun _ => hN _ _ ⟨rfl, _, _, _, rfl⟩⟩
      show D.bl (!deq (wrd (bitsN L (row.getD k 0))) (wrd (bitsN L (row.getD k 0)))) = _
      rw [wrd_self]; rfl
  · rintro σ h' ⟨rfl, o3, o4, o5, rfl⟩
    simp only [sSeq, sNil, sIf, sRet, sRetN, sSet, sAsg, sExpr, sNever, sFor, sNox, sBrk, sCont, sFldD, sAug, sAugS, dVar, dC, dOp, dI0, dII, dNeg, dInv, dAndV, dOrV, dNotV, dTst, dTru, dAnd, dOr, dNot, dIfE, dChn, dCall, dCallK, dMake, aNil, aCons, dTup, dLst, dLstH, dFldC, dCB, dBM, tgN, tgSub, iL, iT, iR1, iR2, DEnds.xx, dLc, dLcH, dYes, dSl, oNon, oSome, nI2, nTup, nLst, nLstH, mApp, wipeD, dIn, dIsN, dNotN, dAddH, dMulH, iS, iEnS, iZipD, iZip3D, dIsB, dJoin, dRgT, dRgL, dRgH, dDNew, dDNewT, sDPutD, tru_bl, tru_int, add_int, add_tup, mul_int, len_tup, len_lst, len_fz, ne_int, eq_int, ne_bl, eq_bl, int_int, int_bl, ty_end, asL_lst, asL_fz, asS_tup, asS_lst, asS_fz, tgs_cons_eq, tgs_nil_eq, tg_tup_eq, tg_lst_eq, at_end, set_end, asS_end, asL_end, at_pre, set_pre, ty_pre, dTupRev, asS_tup, asS_lst, rz_end, rz_lst, mulT_tup, min3_eq, List.getElem?_cons_zero, List.getElem?_cons_succ, Option.some.injEq, exists_eq_left', exists_eq_left, exists_and_left, exists_and_right, and_assoc, D.int.injEq, D.bl.injEq, D.str.injEq, D.tup.injEq, D.lst.injEq, D.fz.injEq, D.ref.injEq, HB.lst.injEq, List.cons.injEq, and_true, true_and, List.set_cons_zero, List.set_cons_succ, List.map_cons, List.map_nil, List.length_cons, List.length_nil, Nat.reduceAdd, Nat.reduceSub, Nat.sub_self, Nat.zero_add, List.replicate_zero, List.replicate_succ, List.append_nil, List.cons_append, List.nil_append, decide_eq_true_eq, decide_eq_false_iff_not, Bool.not_eq_true', Bool.not_eq_false', Bool.true_eq_false, Bool.false_eq_true, false_implies, forall_const, true_implies, reduceCtorEq, and_false, false_and, Bool.not_true, Bool.not_false, if_true, if_false, isT_00, isT_01, isT_02, isT_03, isT_04, plB_0, isT_10, isT_11, isT_12, isT_13, isT_14, plB_1, isT_20, isT_21, isT_22, isT_23, isT_24, plB_2, isT_30, isT_31, isT_32, isT_33, isT_34, plB_3, isT_40, isT_41, isT_42, isT_43, isT_44, plB_4, isT_50, isT_51, isT_52, isT_53, isT_54, plB_5, isT_60, isT_61, isT_62, isT_63, isT_64, plB_6, plB_0, plB_1, plB_2, plB_3, plB_4, plB_5, plB_6, isi_00, isi_01, isi_02, isi_03, isi_04, isi_lt_0, isi_tl_0, isi_10, isi_11, isi_12, isi_13, isi_14, isi_lt_1, isi_tl_1, isi_20, isi_21, isi_22, isi_23, isi_24, isi_lt_2, isi_tl_2, isi_30, isi_31, isi_32, isi_33, isi_34, isi_lt_3, isi_tl_3, isi_40, isi_41, isi_42, isi_43, isi_44, isi_lt_4, isi_tl_4, isi_50, isi_51, isi_52, isi_53, isi_54, isi_lt_5, isi_tl_5, isi_60, isi_61, isi_62, isi_63, isi_64, isi_lt_6, isi_tl_6, isN_0, isN_1, isN_2, isN_3, isN_4, isN_5, isN_6, sizeLine_eq, Nat.reduceLeDiff, Nat.reduceLT, Nat.le_refl, Nat.zero_le]
    exact rt_keep q
end L2.MW.K34

namespace L2.MW.K34
open PySem PySem.Spec PyProof.Rows L2 L2.MW
theorem lc_mapA {α : Type} {g : DG} {tt : DT} {te : DE} {G : DHp → Prop} {h1 : DHp} {σ : DSt} {Q : DHp → Prop} (inj f : α → D) (hG : ∀ acc, G (h1 ++ [.lst acc])) : ∀ (src : List α) (acc0 : List D), acc0.length + src.length ≤ 4000000 →
    (∀ x ∈ src, ∀ (acc : List D) (R : DHp → Prop), acc.length < 16777216 → R (h1 ++ [.lst (acc ++ [f x])]) →
      g (inj x) σ (h1 ++ [.lst acc]) X0 fun σ2 h2 => tt σ2 h2 X0 fun b h3 => (b = true → te σ2 h3 X0 fun y h4 => ∃ acc, h4[h1.length]? = some (.lst acc) ∧ acc.length < sizeLine ∧ R (h4.set h1.length (.lst (acc ++ [y])))) ∧ (b = false → R h3)) →
    Q (h1 ++ [.lst (acc0 ++ src.map f)]) → lcH g tt te G h1.length σ (src.map inj) (h1 ++ [.lst acc0]) Q
  | [], acc0, _, _, q => ⟨hG _, by simpa using q⟩
  | x :: src, acc0, hl, hx, q => ⟨hG _, hx x List.mem_cons_self acc0 (fun h => lcH g tt te G h1.length σ (src.map inj) h Q) (by simp only [List.length_cons] at hl; omega)
      (lc_mapA inj f hG src (acc0 ++ [f x]) (by simp only [List.length_cons, List.length_append, List.length_nil] at hl ⊢; omega) (fun y hy => hx y (List.mem_cons_of_mem _ hy)) (by simpa using q))⟩
theorem lc2_map {α : Type} {g : DG} {tt : DT} {ti1 : DI} {g1 : DG} {tt1 : DT} {te : DE} {G : DHp → Prop} {h1 : DHp} {vs1 : List Nat} {σ : DSt} {Q : DHp → Prop} (inj : α → D) (f : α → List D) (hG : ∀ acc, G (h1 ++ [.lst acc])) : ∀ (src : List α) (acc0 : List D) (B : Nat), acc0.length + src.length * B ≤ 2000000 →
    (∀ x ∈ src, (f x).length ≤ B ∧ ∀ (acc : List D) (R : DHp → Prop), acc.length ≤ 2000000 → R (h1 ++ [.lst (acc ++ f x)]) →
      g (inj x) σ (h1 ++ [.lst acc]) X0 fun σ2 h2 => tt σ2 h2 X0 fun b h3 => (b = true → ti1 σ2 h3 X0 fun items1 G1 h4 => lcH g1 tt1 te G1 h1.length (wipeD σ2 vs1) items1 h4 R) ∧ (b = false → R h3)) →
    Q (h1 ++ [.lst (acc0 ++ src.flatMap f)]) → lcH2 g tt ti1 g1 tt1 te G h1.length vs1 σ (src.map inj) (h1 ++ [.lst acc0]) Q
  | [], acc0, _, _, _, q => ⟨hG _, by simpa using q⟩
  | x :: src, acc0, B, hl, hx, q => by
    have hb := (hx x List.mem_cons_self).1
    rw [List.length_cons, Nat.add_mul, Nat.one_mul] at hl
    refine ⟨hG _, (hx x List.mem_cons_self).2 acc0 (fun h => lcH2 g tt ti1 g1 tt1 te G h1.length vs1 σ (src.map inj) h Q) (by omega) ?_⟩
    exact lc2_map inj f hG src (acc0 ++ f x) B (by rw [List.length_append]; omega) (fun y hy => hx y (List.mem_cons_of_mem _ hy)) (by simpa using q)
theorem mj_int2 (a b c : Nat) : Builtin.bitOr (Builtin.bitAnd (a : Int) (b : Int)) (Builtin.bitAnd (Builtin.bitOr (a : Int) (b : Int)) (c : Int)) = ((mj a b c : Nat) : Int) := mj_int a b c
theorem rd_majorities_with (ds : List D) (h : DHp) (X : DX) (Q : DK) (hn : ds.length = 2) (c : ct_majorities_with ds h X Q) : tb_majorities_with (endsD h X Q) (startD N_majorities_with.length ds) h := by
  obtain ⟨i, k, ns, rfl, hi, hk, k40, q⟩ := c
  have hil : i < h.length := (List.getElem?_eq_some_iff.mp hi).1
  have es : asS h (.ref i) = some (nats ns) := asS_ref hi
  have es2 : ∀ acc, asS (h ++ [.lst acc]) (.ref i) = some (nats ns) := fun acc => asS_ref (by rw [List.getElem?_append_left hil]; exact hi)
  simp only [tb_majorities_with, startD, sSeq, sNil, sIf, sRet, sRetN, sSet, sAsg, sExpr, sNever, sFor, sNox, sBrk, sCont, sFldD, sAug, sAugS, dVar, dC, dOp, dI0, dII, dNeg, dInv, dAndV, dOrV, dNotV, dTst, dTru, dAnd, dOr, dNot, dIfE, dChn, dCall, dCallK, dMake, aNil, aCons, dTup, dLst, dLstH, dFldC, dCB, dBM, tgN, tgSub, iL, iT, iR1, iR2, DEnds.xx, dLc, dLcH, dYes, dSl, oNon, oSome, nI2, nTup, nLst, nLstH, mApp, wipeD, dIn, dIsN, dNotN, dAddH, dMulH, iS, iEnS, iZipD, iZip3D, dIsB, dJoin, dRgT, dRgL, dRgH, dDNew, dDNewT, sDPutD, tru_bl, tru_int, add_int, add_tup, mul_int, len_tup, len_lst, len_fz, ne_int, eq_int, ne_bl, eq_bl, int_int, int_bl, ty_end, asL_lst, asL_fz, asS_tup, asS_lst, asS_fz, tgs_cons_eq, tgs_nil_eq, tg_tup_eq, tg_lst_eq, at_end, set_end, asS_end, asL_end, at_pre, set_pre, ty_pre, dTupRev, asS_tup, asS_lst, rz_end, rz_lst, mulT_tup, min3_eq, List.getElem?_cons_zero, List.getElem?_cons_succ, Option.some.injEq, exists_eq_left', exists_eq_left, exists_and_left, exists_and_right, and_assoc, D.int.injEq, D.bl.injEq, D.str.injEq, D.tup.injEq, D.lst.injEq, D.fz.injEq, D.ref.injEq, HB.lst.injEq, List.cons.injEq, and_true, true_and, List.set_cons_zero, List.set_cons_succ, List.map_cons, List.map_nil, List.length_cons, List.length_nil, Nat.reduceAdd, Nat.reduceSub, Nat.sub_self, Nat.zero_add, List.replicate_zero, List.replicate_succ, List.append_nil, List.cons_append, List.nil_append, decide_eq_true_eq, decide_eq_false_iff_not, Bool.not_eq_true', Bool.not_eq_false', Bool.true_eq_false, Bool.false_eq_true, false_implies, forall_const, true_implies, reduceCtorEq, and_false, false_and, Bool.not_true, Bool.not_false, if_true, if_false, isT_00, isT_01, isT_02, isT_03, isT_04, plB_0, isT_10, isT_11, isT_12, isT_13, isT_14, plB_1, isT_20, isT_21, isT_22, isT_23, isT_24, plB_2, isT_30, isT_31, isT_32, isT_33, isT_34, plB_3, isT_40, isT_41, isT_42, isT_43, isT_44, plB_4, isT_50, isT_51, isT_52, isT_53, isT_54, plB_5, isT_60, isT_61, isT_62, isT_63, isT_64, plB_6, plB_0, plB_1, plB_2, plB_3, plB_4, plB_5, plB_6, isi_00, isi_01, isi_02, isi_03, isi_04, isi_lt_0, isi_tl_0, isi_10, isi_11, isi_12, isi_13, isi_14, isi_lt_1, isi_tl_1, isi_20, isi_21, isi_22, isi_23, isi_24, isi_lt_2, isi_tl_2, isi_30, isi_31, isi_32, isi_33, isi_34, isi_lt_3, isi_tl_3, isi_40, isi_41, isi_42, isi_43, isi_44, isi_lt_4, isi_tl_4, isi_50, isi_51, isi_52, isi_53, isi_54, isi_lt_5, isi_tl_5, isi_60, isi_61, isi_62, isi_63, isi_64, isi_lt_6, isi_tl_6, isN_0, isN_1, isN_2, isN_3, isN_4, isN_5, isN_6, sizeLine_eq, Nat.reduceLeDiff, Nat.reduceLT, Nat.le_refl, Nat.zero_le, ix_eq es (get_nat hk), dLc2]
  refine ⟨rgOk (by omega), ?_⟩
  rw [Int.toNat_natCast]
  refine lc2_map (fun (j : Nat) => D.int (0 + (j : Int))) (fun j => (List.range j).map fun i => D.int (mjAt ns i j k : Nat)) (fun _ => trivial) (List.range k) [] 40 (by simp; omega) (fun j hj => ⟨?_, fun acc R ha hR => ?_⟩) ?_
  · have := List.mem_range.mp hj
    rw [List.length_map, List.length_range]; omega
  · have hj := List.mem_range.mp hj
    simp only [sSeq, sNil, sIf, sRet, sRetN, sSet, sAsg, sExpr, sNever, sFor, sNox, sBrk, sCont, sFldD, sAug, sAugS, dVar, dC, dOp, dI0, dII, dNeg, dInv, dAndV, dOrV, dNotV, dTst, dTru, dAnd, dOr, dNot, dIfE, dChn, dCall, dCallK, dMake, aNil, aCons, dTup, dLst, dLstH, dFldC, dCB, dBM, tgN, tgSub, iL, iT, iR1, iR2, DEnds.xx, dLc, dLcH, dYes, dSl, oNon, oSome, nI2, nTup, nLst, nLstH, mApp, wipeD, dIn, dIsN, dNotN, dAddH, dMulH, iS, iEnS, iZipD, iZip3D, dIsB, dJoin, dRgT, dRgL, dRgH, dDNew, dDNewT, sDPutD, tru_bl, tru_int, add_int, add_tup, mul_int, len_tup, len_lst, len_fz, ne_int, eq_int, ne_bl, eq_bl, int_int, int_bl, ty_end, asL_lst, asL_fz, asS_tup, asS_lst, asS_fz, tgs_cons_eq, tgs_nil_eq, tg_tup_eq, tg_lst_eq, at_end, set_end, asS_end, asL_end, at_pre, set_pre, ty_pre, dTupRev, asS_tup, asS_lst, rz_end, rz_lst, mulT_tup, min3_eq, List.getElem?_cons_zero, List.getElem?_cons_succ, Option.some.injEq, exists_eq_left', exists_eq_left, exists_and_left, exists_and_right, and_assoc, D.int.injEq, D.bl.injEq, D.str.injEq, D.tup.injEq, D.lst.injEq, D.fz.injEq, D.ref.injEq, HB.lst.injEq, List.cons.injEq, and_true, true_and, List.set_cons_zero, List.set_cons_succ, List.map_cons, List.map_nil, List.length_cons, List.length_nil, Nat.reduceAdd, Nat.reduceSub, Nat.sub_self, Nat.zero_add, List.replicate_zero, List.replicate_succ, List.append_nil, List.cons_append, List.nil_append, decide_eq_true_eq, decide_eq_false_iff_not, Bool.not_eq_true', Bool.not_eq_false', Bool.true_eq_false, Bool.false_eq_true, false_implies, forall_const, true_implies, reduceCtorEq, and_false, false_and, Bool.not_true, Bool.not_false, if_true, if_false, isT_00, isT_01, isT_02, isT_03, isT_04, plB_0, isT_10, isT_11, isT_12, isT_13, isT_14, plB_1, isT_20, isT_21, isT_22, isT_23, isT_24, plB_2, isT_30, isT_31, isT_32, isT_33, isT_34, plB_3, isT_40, isT_41, isT_42, isT_43, isT_44, plB_4, isT_50, isT_51, isT_52, isT_53, isT_54, plB_5, isT_60, isT_61, isT_62, isT_63, isT_64, plB_6, plB_0, plB_1, plB_2, plB_3, plB_4, plB_5, plB_6, isi_00, isi_01, isi_02, isi_03, isi_04, isi_lt_0, isi_tl_0, isi_10, isi_11, isi_12, isi_13, isi_14, isi_lt_1, isi_tl_1, isi_20, isi_21, isi_22, isi_23, isi_24, isi_lt_2, isi_tl_2, isi_30, isi_31, isi_32, isi_33, isi_34, isi_lt_3, isi_tl_3, isi_40, isi_41, isi_42, isi_43, isi_44, isi_lt_4, isi_tl_4, isi_50, isi_51, isi_52, isi_53, isi_54, isi_lt_5, isi_tl_5, isi_60, isi_61, isi_62, isi_63, isi_64, isi_lt_6, isi_tl_6, isN_0, isN_1, isN_2, isN_3, isN_4, isN_5, isN_6, sizeLine_eq, Nat.reduceLeDiff, Nat.reduceLT, Nat.le_refl, Nat.zero_le, Int.zero_add]
    refine ⟨rgOk (by omega), ?_⟩
    rw [Int.toNat_natCast]
    refine lc_mapA (fun (i : Nat) => D.int (0 + (i : Int))) (fun i => D.int (mjAt ns i j k : Nat)) (fun _ => trivial) (List.range j) acc (by rw [List.length_range]; omega) (fun t ht acc2 R2 hz hR2 => ?_) hR
    have ht := List.mem_range.mp ht
    simp only [sSeq, sNil, sIf, sRet, sRetN, sSet, sAsg, sExpr, sNever, sFor, sNox, sBrk, sCont, sFldD, sAug, sAugS, dVar, dC, dOp, dI0, dII, dNeg, dInv, dAndV, dOrV, dNotV, dTst, dTru, dAnd, dOr, dNot, dIfE, dChn, dCall, dCallK, dMake, aNil, aCons, dTup, dLst, dLstH, dFldC, dCB, dBM, tgN, tgSub, iL, iT, iR1, iR2, DEnds.xx, dLc, dLcH, dYes, dSl, oNon, oSome, nI2, nTup, nLst, nLstH, mApp, wipeD, dIn, dIsN, dNotN, dAddH, dMulH, iS, iEnS, iZipD, iZip3D, dIsB, dJoin, dRgT, dRgL, dRgH, dDNew, dDNewT, sDPutD, tru_bl, tru_int, add_int, add_tup, mul_int, len_tup, len_lst, len_fz, ne_int, eq_int, ne_bl, eq_bl, int_int, int_bl, ty_end, asL_lst, asL_fz, asS_tup, asS_lst, asS_fz, tgs_cons_eq, tgs_nil_eq, tg_tup_eq, tg_lst_eq, at_end, set_end, asS_end, asL_end, at_pre, set_pre, ty_pre, dTupRev, asS_tup, asS_lst, rz_end, rz_lst, mulT_tup, min3_eq, List.getElem?_cons_zero, List.getElem?_cons_succ, Option.some.injEq, exists_eq_left', exists_eq_left, exists_and_left, exists_and_right, and_assoc, D.int.injEq, D.bl.injEq, D.str.injEq, D.tup.injEq, D.lst.injEq, D.fz.injEq, D.ref.injEq, HB.lst.injEq, List.cons.injEq, and_true, true_and, List.set_cons_zero, List.set_cons_succ, List.map_cons, List.map_nil, List.length_cons, List.length_nil, Nat.reduceAdd, Nat.reduceSub, Nat.sub_self, Nat.zero_add, List.replicate_zero, List.replicate_succ, List.append_nil, List.cons_append, List.nil_append, decide_eq_true_eq, decide_eq_false_iff_not, Bool.not_eq_true', Bool.not_eq_false', Bool.true_eq_false, Bool.false_eq_true, false_implies, forall_const, true_implies, reduceCtorEq, and_false, false_and, Bool.not_true, Bool.not_false, if_true, if_false, isT_00, isT_01, isT_02, isT_03, isT_04, plB_0, isT_10, isT_11, isT_12, isT_13, isT_14, plB_1, isT_20, isT_21, isT_22, isT_23, isT_24, plB_2, isT_30, isT_31, isT_32, isT_33, isT_34, plB_3, isT_40, isT_41, isT_42, isT_43, isT_44, plB_4, isT_50, isT_51, isT_52, isT_53, isT_54, plB_5, isT_60, isT_61, isT_62, isT_63, isT_64, plB_6, plB_0, plB_1, plB_2, plB_3, plB_4, plB_5, plB_6, isi_00, isi_01, isi_02, isi_03, isi_04, isi_lt_0, isi_tl_0, isi_10, isi_11, isi_12, isi_13, isi_14, isi_lt_1, isi_tl_1, isi_20, isi_21, isi_22, isi_23, isi_24, isi_lt_2, isi_tl_2, isi_30, isi_31, isi_32, isi_33, isi_34, isi_lt_3, isi_tl_3, isi_40, isi_41, isi_42, isi_43, isi_44, isi_lt_4, isi_tl_4, isi_50, isi_51, isi_52, isi_53, isi_54, isi_lt_5, isi_tl_5, isi_60, isi_61, isi_62, isi_63, isi_64, isi_lt_6, isi_tl_6, isN_0, isN_1, isN_2, isN_3, isN_4, isN_5, isN_6, sizeLine_eq, Nat.reduceLeDiff, Nat.reduceLT, Nat.le_refl, Nat.zero_le, Int.zero_add, ix_eq (es2 acc2) (get_nat (row := ns) (k := t) (by omega)), ix_eq (es2 acc2) (get_nat (row := ns) (k := j) (by omega)), mj_int]
    exact ⟨hz, hR2⟩
  · have e : (List.range k).flatMap (fun j => (List.range j).map fun i => D.int (mjAt ns i j k : Nat)) = nats (cands ns k) := by
      unfold nats cands
      rw [List.map_flatMap]
      congr 1
      funext j
      rw [List.map_map]; rfl
    rw [List.nil_append, e]
    exact ⟨_, rfl, Bds_nats, rt_keep q⟩
end L2.MW.K34

namespace L2.MW.K34
open PySem PySem.Spec PyProof.Rows L2 L2.MW
/-! ### the closure: the plain law -/
theorem addN_sub {ns : List Nat} {m : Nat} : ∀ x ∈ ns, x ∈ addN ns m := fun x hx => by
  unfold addN
  split
  · exact hx
  · exact List.mem_append_left _ hx
theorem addN_nd {ns : List Nat} {m : Nat} (h : ns.Nodup) : (addN ns m).Nodup := by
  unfold addN
  split
  · exact h
  · rename_i hm
    exact List.nodup_append.mpr ⟨h, List.nodup_cons.mpr ⟨nofun, List.nodup_nil⟩, fun y hy w hw e => hm (by rw [← List.mem_singleton.mp hw, ← e]; exact hy)⟩
theorem addN_lt {L : Nat} {ns : List Nat} {m : Nat} (h : ∀ x ∈ ns, x < 2 ^ L) (hm : m < 2 ^ L) : ∀ x ∈ addN ns m, x < 2 ^ L := fun x hx => by
  unfold addN at hx
  split at hx
  · exact h x hx
  · rcases List.mem_append.mp hx with z | z
    · exact h x z
    · rw [List.mem_singleton.mp z]; exact hm
theorem addN_pre {ns : List Nat} {m : Nat} : ns <+: addN ns m := by
  unfold addN
  split
  · exact List.prefix_rfl
  · exact List.prefix_append _ _
theorem addN_len {ns : List Nat} {m : Nat} : (addN ns m).length ≤ ns.length + 1 := by
  unfold addN
  split
  · omega
  · rw [List.length_append]; exact Nat.le_refl _
/-- a list of words in the making -/
structure Fnd (L : Nat) (ns : List Nat) : Prop where
  nd : ns.Nodup
  lt : ∀ x ∈ ns, x < 2 ^ L
theorem Fnd.add {L : Nat} {ns : List Nat} {m : Nat} (F : Fnd L ns) (hm : m < 2 ^ L) : Fnd L (addN ns m) := ⟨addN_nd F.nd, addN_lt F.lt hm⟩
theorem Fnd.fold {L : Nat} : ∀ (cs : List Nat) {ns : List Nat}, Fnd L ns → (∀ x ∈ cs, x < 2 ^ L) → Fnd L (cs.foldl addN ns)
  | [], _, F, _ => F
  | c :: cs, _, F, h => Fnd.fold cs (F.add (h c List.mem_cons_self)) fun x hx => h x (List.mem_cons_of_mem _ hx)
theorem fold_pre : ∀ (cs : List Nat) {ns : List Nat}, ns <+: cs.foldl addN ns
  | [], _ => List.prefix_rfl
  | _ :: cs, _ => addN_pre.trans (fold_pre cs)
theorem fold_len : ∀ (cs : List Nat) {ns : List Nat}, (cs.foldl addN ns).length ≤ ns.length + cs.length
  | [], _ => Nat.le_refl _
  | c :: cs, ns => by
    have h1 := fold_len cs (ns := addN ns c)
    have h2 := addN_len (ns := ns) (m := c)
    rw [List.foldl_cons, List.length_cons]; omega
theorem fold_mem : ∀ (cs : List Nat) {ns : List Nat}, ∀ x ∈ cs, x ∈ cs.foldl addN ns
  | c :: cs, ns, x, hx => by
    rcases List.mem_cons.mp hx with rfl | h
    · refine (fold_pre cs).subset ?_
      unfold addN
      split
      · assumption
      · simp
    · exact fold_mem cs x h
theorem cands_lt {L : Nat} {ns : List Nat} {k : Nat} (h : ∀ x ∈ ns, x < 2 ^ L) (hk : k < ns.length) : ∀ x ∈ cands ns k, x < 2 ^ L := fun x hx => by
  unfold cands at hx
  obtain ⟨j, hj, hx⟩ := List.mem_flatMap.mp hx
  obtain ⟨i, hi, rfl⟩ := List.mem_map.mp hx
  have hj := List.mem_range.mp hj
  have hi := List.mem_range.mp hi
  exact mj_lt (h _ (getD_mem (by omega))) (h _ (getD_mem (by omega))) (h _ (getD_mem hk))
theorem cands_len {ns : List Nat} {k : Nat} (hk : k ≤ 40) : (cands ns k).length ≤ 1600 := by
  unfold cands
  rw [List.length_flatMap]
  have : ∀ n, n ≤ 40 → ((List.range n).map fun j => ((List.range j).map fun i => mjAt ns i j k).length).sum ≤ n * 40 := fun n => by
    induction n with
    | zero => intro _; simp
    | succ n ih =>
      intro hn
      rw [List.range_succ, List.map_append, List.sum_append]
      have := ih (by omega)
      simp only [List.map_cons, List.map_nil, List.sum_cons, List.sum_nil, List.length_map, List.length_range] at this ⊢
      omega
  exact Nat.le_trans (this k hk) (by omega)
theorem cloF_fnd {L : Nat} {row : List Nat} (F : Fnd L row) : ∀ k, Fnd L (cloF row k)
  | 0 => F
  | k + 1 => by
    unfold cloF
    split
    · rename_i h
      exact Fnd.fold _ (cloF_fnd F k) (cands_lt (cloF_fnd F k).lt h.1)
    · exact cloF_fnd F k
theorem cloF_stop {row : List Nat} {k : Nat} (h : ¬ (k < (cloF row k).length ∧ (cloF row k).length ≤ 40)) : ∀ m, cloF row (k + m) = cloF row k
  | 0 => rfl
  | m + 1 => by
    have ih := cloF_stop h m
    show (if k + m < (cloF row (k + m)).length ∧ (cloF row (k + m)).length ≤ 40 then stepC (cloF row (k + m)) (k + m) else cloF row (k + m)) = _
    rw [ih, if_neg (fun z => h ⟨by omega, z.2⟩)]
theorem cloF_end {row : List Nat} {k : Nat} (hk : k ≤ 41) (h : ¬ (k < (cloF row k).length ∧ (cloF row k).length ≤ 40)) : cloF row 41 = cloF row k := by
  have := cloF_stop h (41 - k)
  rwa [show k + (41 - k) = 41 from by omega] at this
theorem cloF_len {row : List Nat} (h0 : row.length ≤ 40) : ∀ k, k ≤ 41 → (cloF row k).length ≤ 1640
  | 0, _ => by show row.length ≤ _; omega
  | k + 1, hk => by
    show (if k < (cloF row k).length ∧ (cloF row k).length ≤ 40 then stepC (cloF row k) k else cloF row k).length ≤ 1640
    split
    · rename_i h
      have h1 := fold_len (cands (cloF row k) k) (ns := cloF row k)
      have h2 := cands_len (ns := cloF row k) (k := k) (by omega)
      unfold stepC
      omega
    · exact cloF_len h0 k (by omega)
theorem due_uniq {L : Nat} {row d e : List Nat} (h1 : Due L row d) (h2 : Due L row e) : d = e := by
  refine (h1.pm.trans h2.pm.symm).eq_of_pairwise ?_ h1.rn.up h2.rn.up
  intro a b _ _ h3 h4
  omega
end L2.MW.K34

namespace L2.MW.K34
open PySem PySem.Spec PyProof.Rows L2 L2.MW
theorem whW_inv {c : DT} {tb : DS} {E : DEnds} (I : Nat → DSt → DHp → Prop) (h0 : ∀ σ h, I 0 σ h → False)
    (st : ∀ k σ h (N : DSt → DHp → Prop), I (k + 1) σ h → (∀ σ' h', I k σ' h' → N σ' h') → c σ h (E.xx σ) fun b h1 => (b = true → tb { E with nx := N, ct := N, bk := E.nx } σ h1) ∧ (b = false → E.nx σ h1)) : ∀ k σ h, I k σ h → whW c tb E k σ h
  | 0, σ, h, i => h0 σ h i
  | k + 1, σ, h, i => st k σ h _ i fun σ' h' i' => whW_inv I h0 st k σ' h' i'
theorem sorted_rowP {L : Nat} {row : List Nat} {h : DHp} {Q : DK} {d : D} (e : asL h d = some (nats row)) (nd : row.Nodup) (lt : ∀ x ∈ row, x < 2 ^ L) (q : ∀ row', RowN L row' → row'.Perm row → Q (.lst (nats row')) h) : nSrtI [d] h Q := by
  refine ⟨_, row.map fun (n : Nat) => (n : Int), rfl, by rw [e, nats_ints], fun ns' hp hs => ?_⟩
  obtain ⟨row', e, hp'⟩ := perm_nats hp
  subst e
  rw [← nats_ints]
  exact q row' ⟨srt_nats hs (hp'.nodup_iff.mpr nd), fun x hx => lt x (hp'.subset hx)⟩ hp'
theorem rd_closed (ds : List D) (h : DHp) (X : DX) (Q : DK) (hn : ds.length = 1) (c : ct_closed ds h X Q) : tb_closed (endsD h X Q) (startD N_closed.length ds) h := by
  obtain ⟨L, row, rfl, ok, q1, q2⟩ := c
  have few := ok.few
  have F0 : Fnd L row := ⟨ok.rn.up.imp fun {a b} hab => Nat.ne_of_lt hab, ok.rn.lt⟩
  have len1 : ∀ b : HB, (h ++ [b]).length = h.length + 1 := fun b => by simp
  have app2 : ∀ b c : HB, h ++ [b] ++ [c] = h ++ [b, c] := fun b c => by simp
  simp only [tb_closed, startD, sSeq, sNil, sIf, sRet, sRetN, sSet, sAsg, sExpr, sNever, sFor, sNox, sBrk, sCont, sFldD, sAug, sAugS, dVar, dC, dOp, dI0, dII, dNeg, dInv, dAndV, dOrV, dNotV, dTst, dTru, dAnd, dOr, dNot, dIfE, dChn, dCall, dCallK, dMake, aNil, aCons, dTup, dLst, dLstH, dFldC, dCB, dBM, tgN, tgSub, iL, iT, iR1, iR2, DEnds.xx, dLc, dLcH, dYes, dSl, oNon, oSome, nI2, nTup, nLst, nLstH, mApp, wipeD, dIn, dIsN, dNotN, dAddH, dMulH, iS, iEnS, iZipD, iZip3D, dIsB, dJoin, dRgT, dRgL, dRgH, dDNew, dDNewT, sDPutD, tru_bl, tru_int, add_int, add_tup, mul_int, len_tup, len_lst, len_fz, ne_int, eq_int, ne_bl, eq_bl, int_int, int_bl, ty_end, asL_lst, asL_fz, asS_tup, asS_lst, asS_fz, tgs_cons_eq, tgs_nil_eq, tg_tup_eq, tg_lst_eq, at_end, set_end, asS_end, asL_end, at_pre, set_pre, ty_pre, dTupRev, asS_tup, asS_lst, rz_end, rz_lst, mulT_tup, min3_eq, List.getElem?_cons_zero, List.getElem?_cons_succ, Option.some.injEq, exists_eq_left', exists_eq_left, exists_and_left, exists_and_right, and_assoc, D.int.injEq, D.bl.injEq, D.str.injEq, D.tup.injEq, D.lst.injEq, D.fz.injEq, D.ref.injEq, HB.lst.injEq, List.cons.injEq, and_true, true_and, List.set_cons_zero, List.set_cons_succ, List.map_cons, List.map_nil, List.length_cons, List.length_nil, Nat.reduceAdd, Nat.reduceSub, Nat.sub_self, Nat.zero_add, List.replicate_zero, List.replicate_succ, List.append_nil, List.cons_append, List.nil_append, decide_eq_true_eq, decide_eq_false_iff_not, Bool.not_eq_true', Bool.not_eq_false', Bool.true_eq_false, Bool.false_eq_true, false_implies, forall_const, true_implies, reduceCtorEq, and_false, false_and, Bool.not_true, Bool.not_false, if_true, if_false, isT_00, isT_01, isT_02, isT_03, isT_04, plB_0, isT_10, isT_11, isT_12, isT_13, isT_14, plB_1, isT_20, isT_21, isT_22, isT_23, isT_24, plB_2, isT_30, isT_31, isT_32, isT_33, isT_34, plB_3, isT_40, isT_41, isT_42, isT_43, isT_44, plB_4, isT_50, isT_51, isT_52, isT_53, isT_54, plB_5, isT_60, isT_61, isT_62, isT_63, isT_64, plB_6, plB_0, plB_1, plB_2, plB_3, plB_4, plB_5, plB_6, isi_00, isi_01, isi_02, isi_03, isi_04, isi_lt_0, isi_tl_0, isi_10, isi_11, isi_12, isi_13, isi_14, isi_lt_1, isi_tl_1, isi_20, isi_21, isi_22, isi_23, isi_24, isi_lt_2, isi_tl_2, isi_30, isi_31, isi_32, isi_33, isi_34, isi_lt_3, isi_tl_3, isi_40, isi_41, isi_42, isi_43, isi_44, isi_lt_4, isi_tl_4, isi_50, isi_51, isi_52, isi_53, isi_54, isi_lt_5, isi_tl_5, isi_60, isi_61, isi_62, isi_63, isi_64, isi_lt_6, isi_tl_6, isN_0, isN_1, isN_2, isN_3, isN_4, isN_5, isN_6, sizeLine_eq, Nat.reduceLeDiff, Nat.reduceLT, Nat.le_refl, Nat.zero_le, ct_numbers_of, len1]
  refine ⟨L, row, rfl, ok, ?_⟩
  refine ⟨_, row.map fun (n : Nat) => (n : Int), rfl, by rw [asL_end, nats_ints], by rw [List.length_map]; omega, fun m hm => ?_⟩
  simp only [sSeq, sNil, sIf, sRet, sRetN, sSet, sAsg, sExpr, sNever, sFor, sNox, sBrk, sCont, sFldD, sAug, sAugS, dVar, dC, dOp, dI0, dII, dNeg, dInv, dAndV, dOrV, dNotV, dTst, dTru, dAnd, dOr, dNot, dIfE, dChn, dCall, dCallK, dMake, aNil, aCons, dTup, dLst, dLstH, dFldC, dCB, dBM, tgN, tgSub, iL, iT, iR1, iR2, DEnds.xx, dLc, dLcH, dYes, dSl, oNon, oSome, nI2, nTup, nLst, nLstH, mApp, wipeD, dIn, dIsN, dNotN, dAddH, dMulH, iS, iEnS, iZipD, iZip3D, dIsB, dJoin, dRgT, dRgL, dRgH, dDNew, dDNewT, sDPutD, tru_bl, tru_int, add_int, add_tup, mul_int, len_tup, len_lst, len_fz, ne_int, eq_int, ne_bl, eq_bl, int_int, int_bl, ty_end, asL_lst, asL_fz, asS_tup, asS_lst, asS_fz, tgs_cons_eq, tgs_nil_eq, tg_tup_eq, tg_lst_eq, at_end, set_end, asS_end, asL_end, at_pre, set_pre, ty_pre, dTupRev, asS_tup, asS_lst, rz_end, rz_lst, mulT_tup, min3_eq, List.getElem?_cons_zero, List.getElem?_cons_succ, Option.some.injEq, exists_eq_left', exists_eq_left, exists_and_left, exists_and_right, and_assoc, D.int.injEq, D.bl.injEq, D.str.injEq, D.tup.injEq, D.lst.injEq, D.fz.injEq, D.ref.injEq, HB.lst.injEq, List.cons.injEq, and_true, true_and, List.set_cons_zero, List.set_cons_succ, List.map_cons, List.map_nil, List.length_cons, List.length_nil, Nat.reduceAdd, Nat.reduceSub, Nat.sub_self, Nat.zero_add, List.replicate_zero, List.replicate_succ, List.append_nil, List.cons_append, List.nil_append, decide_eq_true_eq, decide_eq_false_iff_not, Bool.not_eq_true', Bool.not_eq_false', Bool.true_eq_false, Bool.false_eq_true, false_implies, forall_const, true_implies, reduceCtorEq, and_false, false_and, Bool.not_true, Bool.not_false, if_true, if_false, isT_00, isT_01, isT_02, isT_03, isT_04, plB_0, isT_10, isT_11, isT_12, isT_13, isT_14, plB_1, isT_20, isT_21, isT_22, isT_23, isT_24, plB_2, isT_30, isT_31, isT_32, isT_33, isT_34, plB_3, isT_40, isT_41, isT_42, isT_43, isT_44, plB_4, isT_50, isT_51, isT_52, isT_53, isT_54, plB_5, isT_60, isT_61, isT_62, isT_63, isT_64, plB_6, plB_0, plB_1, plB_2, plB_3, plB_4, plB_5, plB_6, isi_00, isi_01, isi_02, isi_03, isi_04, isi_lt_0, isi_tl_0, isi_10, isi_11, isi_12, isi_13, isi_14, isi_lt_1, isi_tl_1, isi_20, isi_21, isi_22, isi_23, isi_24, isi_lt_2, isi_tl_2, isi_30, isi_31, isi_32, isi_33, isi_34, isi_lt_3, isi_tl_3, isi_40, isi_41, isi_42, isi_43, isi_44, isi_lt_4, isi_tl_4, isi_50, isi_51, isi_52, isi_53, isi_54, isi_lt_5, isi_tl_5, isi_60, isi_61, isi_62, isi_63, isi_64, isi_lt_6, isi_tl_6, isN_0, isN_1, isN_2, isN_3, isN_4, isN_5, isN_6, sizeLine_eq, Nat.reduceLeDiff, Nat.reduceLT, Nat.le_refl, Nat.zero_le, len1, app2, sWhile]
  refine ⟨42, whW_inv (fun k σ h' => ∃ (at_ : Nat) (S : Int → Bool) (m : Nat) (o4 o5 : Option D), k + at_ = 42 ∧ at_ ≤ (cloF row at_).length ∧ (cloF row at_).length ≤ 40 ∧ m ≤ (cloF row at_).length ∧ (∀ x : Nat, S (x : Int) = decide (x ∈ cloF row at_)) ∧ h' = h ++ [.lst (nats (cloF row at_)), .st S m] ∧ σ = [some (boO L row), some (.ref h.length), some (.ref (h.length + 1)), some (.int at_), o4, o5]) ?_ ?_ 42 _ _ ⟨0, _, m, _, _, rfl, Nat.zero_le _, few, by rw [List.length_map] at hm; exact hm, fun x => nat_memI, rfl, rfl⟩⟩
  · rintro σ h' ⟨a, S, m, o4, o5, e, h1, h2, _⟩
    omega
  · rintro k σ h' N ⟨a, S, m, o4, o5, e, h1, h2, hm, hS, rfl, rfl⟩ hN
    have es : asS (h ++ [.lst (nats (cloF row a)), .st S m]) (.ref h.length) = some (nats (cloF row a)) := asS_ref at1
    simp only [sSeq, sNil, sIf, sRet, sRetN, sSet, sAsg, sExpr, sNever, sFor, sNox, sBrk, sCont, sFldD, sAug, sAugS, dVar, dC, dOp, dI0, dII, dNeg, dInv, dAndV, dOrV, dNotV, dTst, dTru, dAnd, dOr, dNot, dIfE, dChn, dCall, dCallK, dMake, aNil, aCons, dTup, dLst, dLstH, dFldC, dCB, dBM, tgN, tgSub, iL, iT, iR1, iR2, DEnds.xx, dLc, dLcH, dYes, dSl, oNon, oSome, nI2, nTup, nLst, nLstH, mApp, wipeD, dIn, dIsN, dNotN, dAddH, dMulH, iS, iEnS, iZipD, iZip3D, dIsB, dJoin, dRgT, dRgL, dRgH, dDNew, dDNewT, sDPutD, tru_bl, tru_int, add_int, add_tup, mul_int, len_tup, len_lst, len_fz, ne_int, eq_int, ne_bl, eq_bl, int_int, int_bl, ty_end, asL_lst, asL_fz, asS_tup, asS_lst, asS_fz, tgs_cons_eq, tgs_nil_eq, tg_tup_eq, tg_lst_eq, at_end, set_end, asS_end, asL_end, at_pre, set_pre, ty_pre, dTupRev, asS_tup, asS_lst, rz_end, rz_lst, mulT_tup, min3_eq, List.getElem?_cons_zero, List.getElem?_cons_succ, Option.some.injEq, exists_eq_left', exists_eq_left, exists_and_left, exists_and_right, and_assoc, D.int.injEq, D.bl.injEq, D.str.injEq, D.tup.injEq, D.lst.injEq, D.fz.injEq, D.ref.injEq, HB.lst.injEq, List.cons.injEq, and_true, true_and, List.set_cons_zero, List.set_cons_succ, List.map_cons, List.map_nil, List.length_cons, List.length_nil, Nat.reduceAdd, Nat.reduceSub, Nat.sub_self, Nat.zero_add, List.replicate_zero, List.replicate_succ, List.append_nil, List.cons_append, List.nil_append, decide_eq_true_eq, decide_eq_false_iff_not, Bool.not_eq_true', Bool.not_eq_false', Bool.true_eq_false, Bool.false_eq_true, false_implies, forall_const, true_implies, reduceCtorEq, and_false, false_and, Bool.not_true, Bool.not_false, if_true, if_false, isT_00, isT_01, isT_02, isT_03, isT_04, plB_0, isT_10, isT_11, isT_12, isT_13, isT_14, plB_1, isT_20, isT_21, isT_22, isT_23, isT_24, plB_2, isT_30, isT_31, isT_32, isT_33, isT_34, plB_3, isT_40, isT_41, isT_42, isT_43, isT_44, plB_4, isT_50, isT_51, isT_52, isT_53, isT_54, plB_5, isT_60, isT_61, isT_62, isT_63, isT_64, plB_6, plB_0, plB_1, plB_2, plB_3, plB_4, plB_5, plB_6, isi_00, isi_01, isi_02, isi_03, isi_04, isi_lt_0, isi_tl_0, isi_10, isi_11, isi_12, isi_13, isi_14, isi_lt_1, isi_tl_1, isi_20, isi_21, isi_22, isi_23, isi_24, isi_lt_2, isi_tl_2, isi_30, isi_31, isi_32, isi_33, isi_34, isi_lt_3, isi_tl_3, isi_40, isi_41, isi_42, isi_43, isi_44, isi_lt_4, isi_tl_4, isi_50, isi_51, isi_52, isi_53, isi_54, isi_lt_5, isi_tl_5, isi_60, isi_61, isi_62, isi_63, isi_64, isi_lt_6, isi_tl_6, isN_0, isN_1, isN_2, isN_3, isN_4, isN_5, isN_6, sizeLine_eq, Nat.reduceLeDiff, Nat.reduceLT, Nat.le_refl, Nat.zero_le, len_eq es, nats_len, ct_majorities_with]
    refine ⟨fun hlt => ?_, fun hge => ?_⟩
    · have hlt' : a < (cloF row a).length := by omega
      refine ⟨a, rfl, cloF row a, at1, hlt', by omega, ?_⟩
      generalize hcs : cands (cloF row a) a = cs
      have cl : cs.length ≤ 1600 := by rw [← hcs]; exact cands_len (by omega)
      have F := cloF_fnd F0 a
      have clt : ∀ x ∈ cs, x < 2 ^ L := by rw [← hcs]; exact cands_lt F.lt hlt'
      have enext : cloF row (a + 1) = cs.foldl addN (cloF row a) := by
        show (if a < (cloF row a).length ∧ (cloF row a).length ≤ 40 then stepC (cloF row a) a else cloF row a) = _
        rw [if_pos ⟨hlt', h2⟩, ← hcs]; rfl
      refine forW_inv (nats cs) (fun i σ h' => ∃ (S : Int → Bool) (m : Nat) (o5 : Option D), m ≤ ((cs.take i).foldl addN (cloF row a)).length ∧ (∀ x : Nat, S (x : Int) = decide (x ∈ (cs.take i).foldl addN (cloF row a))) ∧ h' = h ++ [.lst (nats ((cs.take i).foldl addN (cloF row a))), .st S m] ∧ σ = [some (boO L row), some (.ref h.length), some (.ref (h.length + 1)), some (.int a), some (.lst (nats cs)), o5]) ⟨S, m, _, hm, hS, rfl, rfl⟩ (fun _ _ _ _ _ => rfl) ?_ ?_
      · rintro i x σ h' N2 hx ⟨S, m, o5, hm, hS, rfl, rfl⟩ hN2
        obtain ⟨n, hn, rfl, ht, hd2, hmm⟩ := get_map (f := fun (n : Nat) => D.int (n : Int)) hx
        have hi : i < cs.length := (List.getElem?_eq_some_iff.mp hn).1
        have et : (cs.take (i + 1)).foldl addN (cloF row a) = addN ((cs.take i).foldl addN (cloF row a)) n := by
          rw [List.take_succ, hn, List.foldl_append]; rfl
        have ln : ((cs.take i).foldl addN (cloF row a)).length ≤ 1640 := by
          have := fold_len (cs.take i) (ns := cloF row a)
          rw [List.length_take] at this; omega
        generalize hcur : (cs.take i).foldl addN (cloF row a) = cur at hm hS et ln ⊢
        simp only [sSeq, sNil, sIf, sRet, sRetN, sSet, sAsg, sExpr, sNever, sFor, sNox, sBrk, sCont, sFldD, sAug, sAugS, dVar, dC, dOp, dI0, dII, dNeg, dInv, dAndV, dOrV, dNotV, dTst, dTru, dAnd, dOr, dNot, dIfE, dChn, dCall, dCallK, dMake, aNil, aCons, dTup, dLst, dLstH, dFldC, dCB, dBM, tgN, tgSub, iL, iT, iR1, iR2, DEnds.xx, dLc, dLcH, dYes, dSl, oNon, oSome, nI2, nTup, nLst, nLstH, mApp, wipeD, dIn, dIsN, dNotN, dAddH, dMulH, iS, iEnS, iZipD, iZip3D, dIsB, dJoin, dRgT, dRgL, dRgH, dDNew, dDNewT, sDPutD, tru_bl, tru_int, add_int, add_tup, mul_int, len_tup, len_lst, len_fz, ne_int, eq_int, ne_bl, eq_bl, int_int, int_bl, ty_end, asL_lst, asL_fz, asS_tup, asS_lst, asS_fz, tgs_cons_eq, tgs_nil_eq, tg_tup_eq, tg_lst_eq, at_end, set_end, asS_end, asL_end, at_pre, set_pre, ty_pre, dTupRev, asS_tup, asS_lst, rz_end, rz_lst, mulT_tup, min3_eq, List.getElem?_cons_zero, List.getElem?_cons_succ, Option.some.injEq, exists_eq_left', exists_eq_left, exists_and_left, exists_and_right, and_assoc, D.int.injEq, D.bl.injEq, D.str.injEq, D.tup.injEq, D.lst.injEq, D.fz.injEq, D.ref.injEq, HB.lst.injEq, List.cons.injEq, and_true, true_and, List.set_cons_zero, List.set_cons_succ, List.map_cons, List.map_nil, List.length_cons, List.length_nil, Nat.reduceAdd, Nat.reduceSub, Nat.sub_self, Nat.zero_add, List.replicate_zero, List.replicate_succ, List.append_nil, List.cons_append, List.nil_append, decide_eq_true_eq, decide_eq_false_iff_not, Bool.not_eq_true', Bool.not_eq_false', Bool.true_eq_false, Bool.false_eq_true, false_implies, forall_const, true_implies, reduceCtorEq, and_false, false_and, Bool.not_true, Bool.not_false, if_true, if_false, isT_00, isT_01, isT_02, isT_03, isT_04, plB_0, isT_10, isT_11, isT_12, isT_13, isT_14, plB_1, isT_20, isT_21, isT_22, isT_23, isT_24, plB_2, isT_30, isT_31, isT_32, isT_33, isT_34, plB_3, isT_40, isT_41, isT_42, isT_43, isT_44, plB_4, isT_50, isT_51, isT_52, isT_53, isT_54, plB_5, isT_60, isT_61, isT_62, isT_63, isT_64, plB_6, plB_0, plB_1, plB_2, plB_3, plB_4, plB_5, plB_6, isi_00, isi_01, isi_02, isi_03, isi_04, isi_lt_0, isi_tl_0, isi_10, isi_11, isi_12, isi_13, isi_14, isi_lt_1, isi_tl_1, isi_20, isi_21, isi_22, isi_23, isi_24, isi_lt_2, isi_tl_2, isi_30, isi_31, isi_32, isi_33, isi_34, isi_lt_3, isi_tl_3, isi_40, isi_41, isi_42, isi_43, isi_44, isi_lt_4, isi_tl_4, isi_50, isi_51, isi_52, isi_53, isi_54, isi_lt_5, isi_tl_5, isi_60, isi_61, isi_62, isi_63, isi_64, isi_lt_6, isi_tl_6, isN_0, isN_1, isN_2, isN_3, isN_4, isN_5, isN_6, sizeLine_eq, Nat.reduceLeDiff, Nat.reduceLT, Nat.le_refl, Nat.zero_le, in_st at2, hS, dSAdd]
        refine ⟨fun hno => ?_, fun hyes => ?_⟩
        · refine ⟨⟨_, _, at2⟩, S, m, at2, by omega, ?_⟩
          rw [set2]
          refine ⟨.inl ⟨rfl, _, asL_ref at1⟩, _, at1, by rw [nats_len]; omega, ?_⟩
          rw [set1]
          have hno' : n ∉ cur := by simpa using hno
          have ea : addN cur n = cur ++ [n] := if_neg hno'
          refine hN2 _ _ ⟨_, _, _, ?_, fun x => ?_, by rw [et, ea, nats_app]; rfl, rfl⟩
          · rw [et, ea, List.length_append]; split <;> simp <;> omega
          · rw [et, ea, hS, Bool.eq_iff_iff]
            simp
            exact or_congr Iff.rfl (by omega)
        · have ea : addN cur n = cur := if_pos (by simpa using hyes)
          exact hN2 _ _ ⟨S, m, _, by rw [et, ea]; exact hm, fun x => by rw [et, ea]; exact hS x, by rw [et, ea], rfl⟩
      · rintro σ h' ⟨S, m, o5, hm, hS, rfl, rfl⟩
        rw [nats_len, List.take_length, ← enext] at hm hS
        rw [nats_len, List.take_length, ← enext]
        have es : asS (h ++ [.lst (nats (cloF row (a + 1))), .st S m]) (.ref h.length) = some (nats (cloF row (a + 1))) := asS_ref at1
        simp only [sSeq, sNil, sIf, sRet, sRetN, sSet, sAsg, sExpr, sNever, sFor, sNox, sBrk, sCont, sFldD, sAug, sAugS, dVar, dC, dOp, dI0, dII, dNeg, dInv, dAndV, dOrV, dNotV, dTst, dTru, dAnd, dOr, dNot, dIfE, dChn, dCall, dCallK, dMake, aNil, aCons, dTup, dLst, dLstH, dFldC, dCB, dBM, tgN, tgSub, iL, iT, iR1, iR2, DEnds.xx, dLc, dLcH, dYes, dSl, oNon, oSome, nI2, nTup, nLst, nLstH, mApp, wipeD, dIn, dIsN, dNotN, dAddH, dMulH, iS, iEnS, iZipD, iZip3D, dIsB, dJoin, dRgT, dRgL, dRgH, dDNew, dDNewT, sDPutD, tru_bl, tru_int, add_int, add_tup, mul_int, len_tup, len_lst, len_fz, ne_int, eq_int, ne_bl, eq_bl, int_int, int_bl, ty_end, asL_lst, asL_fz, asS_tup, asS_lst, asS_fz, tgs_cons_eq, tgs_nil_eq, tg_tup_eq, tg_lst_eq, at_end, set_end, asS_end, asL_end, at_pre, set_pre, ty_pre, dTupRev, asS_tup, asS_lst, rz_end, rz_lst, mulT_tup, min3_eq, List.getElem?_cons_zero, List.getElem?_cons_succ, Option.some.injEq, exists_eq_left', exists_eq_left, exists_and_left, exists_and_right, and_assoc, D.int.injEq, D.bl.injEq, D.str.injEq, D.tup.injEq, D.lst.injEq, D.fz.injEq, D.ref.injEq, HB.lst.injEq, List.cons.injEq, and_true, true_and, List.set_cons_zero, List.set_cons_succ, List.map_cons, List.map_nil, List.length_cons, List.length_nil, Nat.reduceAdd, Nat.reduceSub, Nat.sub_self, Nat.zero_add, List.replicate_zero, List.replicate_succ, List.append_nil, List.cons_append, List.nil_append, decide_eq_true_eq, decide_eq_false_iff_not, Bool.not_eq_true', Bool.not_eq_false', Bool.true_eq_false, Bool.false_eq_true, false_implies, forall_const, true_implies, reduceCtorEq, and_false, false_and, Bool.not_true, Bool.not_false, if_true, if_false, isT_00, isT_01, isT_02, isT_03, isT_04, plB_0, isT_10, isT_11, isT_12, isT_13, isT_14, plB_1, isT_20, isT_21, isT_22, isT_23, isT_24, plB_2, isT_30, isT_31, isT_32, isT_33, isT_34, plB_3, isT_40, isT_41, isT_42, isT_43, isT_44, plB_4, isT_50, isT_51, isT_52, isT_53, isT_54, plB_5, isT_60, isT_61, isT_62, isT_63, isT_64, plB_6, plB_0, plB_1, plB_2, plB_3, plB_4, plB_5, plB_6, isi_00, isi_01, isi_02, isi_03, isi_04, isi_lt_0, isi_tl_0, isi_10, isi_11, isi_12, isi_13, isi_14, isi_lt_1, isi_tl_1, isi_20, isi_21, isi_22, isi_23, isi_24, isi_lt_2, isi_tl_2, isi_30, isi_31, isi_32, isi_33, isi_34, isi_lt_3, isi_tl_3, isi_40, isi_41, isi_42, isi_43, isi_44, isi_lt_4, isi_tl_4, isi_50, isi_51, isi_52, isi_53, isi_54, isi_lt_5, isi_tl_5, isi_60, isi_61, isi_62, isi_63, isi_64, isi_lt_6, isi_tl_6, isN_0, isN_1, isN_2, isN_3, isN_4, isN_5, isN_6, sizeLine_eq, Nat.reduceLeDiff, Nat.reduceLT, Nat.le_refl, Nat.zero_le, len_eq es, nats_len, sRaise]
        refine ⟨fun hgt => ?_, fun hle => ?_⟩
        · have e41 : cloF row 41 = cloF row (a + 1) := cloF_end (by omega) (by omega)
          exact ex_back ⟨trivial, trivial⟩ (q2 (by rw [e41]; omega))
        · have pre : (cloF row a).length ≤ (cloF row (a + 1)).length := by rw [enext]; exact (fold_pre cs).length_le
          exact hN _ _ ⟨a + 1, S, m, _, _, by omega, by omega, by omega, hm, hS, rfl, rfl⟩
    · have e41 : cloF row 41 = cloF row a := cloF_end (by omega) (by omega)
      have F := cloF_fnd F0 a
      simp only [bo_len]
      refine sorted_rowP es F.nd F.lt fun due rn' pm => ?_
      have ld := pm.length_eq
      have rne : due ≠ [] := fun z => by
        rw [z] at ld
        have p0 : 0 < row.length := List.length_pos_iff.mpr ok.ne
        have zz : a = 0 := by simp at ld; omega
        subst zz
        have : (cloF row 0).length = row.length := rfl
        simp at ld
        omega
      have bw : ∀ m, Bds m (wsD L due) := fun m => Bds_all' fun x hx => by
        obtain ⟨n, _, rfl⟩ := List.mem_map.mp hx
        exact Bd.of_pl 3 _ ((wrd_ok _).up (by decide)) _
      refine ⟨nats due, rfl, lc_mapT due (fun (n : Nat) => D.int (n : Nat)) (fun n => wrd (bitsN L n)) (fun _ => rfl) (by omega) (fun i hi acc R hz hA => ?_) ?_⟩
      · simp only [sSeq, sNil, sIf, sRet, sRetN, sSet, sAsg, sExpr, sNever, sFor, sNox, sBrk, sCont, sFldD, sAug, sAugS, dVar, dC, dOp, dI0, dII, dNeg, dInv, dAndV, dOrV, dNotV, dTst, dTru, dAnd, dOr, dNot, dIfE, dChn, dCall, dCallK, dMake, aNil, aCons, dTup, dLst, dLstH, dFldC, dCB, dBM, tgN, tgSub, iL, iT, iR1, iR2, DEnds.xx, dLc, dLcH, dYes, dSl, oNon, oSome, nI2, nTup, nLst, nLstH, mApp, wipeD, dIn, dIsN, dNotN, dAddH, dMulH, iS, iEnS, iZipD, iZip3D, dIsB, dJoin, dRgT, dRgL, dRgH, dDNew, dDNewT, sDPutD, tru_bl, tru_int, add_int, add_tup, mul_int, len_tup, len_lst, len_fz, ne_int, eq_int, ne_bl, eq_bl, int_int, int_bl, ty_end, asL_lst, asL_fz, asS_tup, asS_lst, asS_fz, tgs_cons_eq, tgs_nil_eq, tg_tup_eq, tg_lst_eq, at_end, set_end, asS_end, asL_end, at_pre, set_pre, ty_pre, dTupRev, asS_tup, asS_lst, rz_end, rz_lst, mulT_tup, min3_eq, List.getElem?_cons_zero, List.getElem?_cons_succ, Option.some.injEq, exists_eq_left', exists_eq_left, exists_and_left, exists_and_right, and_assoc, D.int.injEq, D.bl.injEq, D.str.injEq, D.tup.injEq, D.lst.injEq, D.fz.injEq, D.ref.injEq, HB.lst.injEq, List.cons.injEq, and_true, true_and, List.set_cons_zero, List.set_cons_succ, List.map_cons, List.map_nil, List.length_cons, List.length_nil, Nat.reduceAdd, Nat.reduceSub, Nat.sub_self, Nat.zero_add, List.replicate_zero, List.replicate_succ, List.append_nil, List.cons_append, List.nil_append, decide_eq_true_eq, decide_eq_false_iff_not, Bool.not_eq_true', Bool.not_eq_false', Bool.true_eq_false, Bool.false_eq_true, false_implies, forall_const, true_implies, reduceCtorEq, and_false, false_and, Bool.not_true, Bool.not_false, if_true, if_false, isT_00, isT_01, isT_02, isT_03, isT_04, plB_0, isT_10, isT_11, isT_12, isT_13, isT_14, plB_1, isT_20, isT_21, isT_22, isT_23, isT_24, plB_2, isT_30, isT_31, isT_32, isT_33, isT_34, plB_3, isT_40, isT_41, isT_42, isT_43, isT_44, plB_4, isT_50, isT_51, isT_52, isT_53, isT_54, plB_5, isT_60, isT_61, isT_62, isT_63, isT_64, plB_6, plB_0, plB_1, plB_2, plB_3, plB_4, plB_5, plB_6, isi_00, isi_01, isi_02, isi_03, isi_04, isi_lt_0, isi_tl_0, isi_10, isi_11, isi_12, isi_13, isi_14, isi_lt_1, isi_tl_1, isi_20, isi_21, isi_22, isi_23, isi_24, isi_lt_2, isi_tl_2, isi_30, isi_31, isi_32, isi_33, isi_34, isi_lt_3, isi_tl_3, isi_40, isi_41, isi_42, isi_43, isi_44, isi_lt_4, isi_tl_4, isi_50, isi_51, isi_52, isi_53, isi_54, isi_lt_5, isi_tl_5, isi_60, isi_61, isi_62, isi_63, isi_64, isi_lt_6, isi_tl_6, isN_0, isN_1, isN_2, isN_3, isN_4, isN_5, isN_6, sizeLine_eq, Nat.reduceLeDiff, Nat.reduceLT, Nat.le_refl, Nat.zero_le, bo_len, ct_word_of_number]
        exact ⟨due[i], rfl, L, rfl, ok.le, hz, hA⟩
      · exact ⟨wsD L due, rfl, bw _, _, L, due, _, rfl, .inl rfl, at_end, ⟨ok.le, rn', rne, by omega⟩, rfl, boD L due, [], by rw [set_end], ⟨trivial, bw _, trivial⟩, rt_back ⟨trivial, bw _, trivial⟩ (q1 (by rw [e41]; exact h2) due ⟨rn', by rw [e41]; exact pm⟩)⟩
end L2.MW.K34

namespace L2.MW.K34
open PySem PySem.Spec PyProof.Rows L2 L2.MW
theorem rd_law_told (ds : List D) (h : DHp) (X : DX) (Q : DK) (hn : ds.length = 1) (c : ct__law_told ds h X Q) : tb__law_told (endsD h X Q) (startD N__law_told.length ds) h := by
  obtain ⟨L, row, rfl, ok, q1, q2⟩ := c
  simp only [tb__law_told, startD, sSeq, sNil, sIf, sRet, sRetN, sSet, sAsg, sExpr, sNever, sFor, sNox, sBrk, sCont, sFldD, sAug, sAugS, dVar, dC, dOp, dI0, dII, dNeg, dInv, dAndV, dOrV, dNotV, dTst, dTru, dAnd, dOr, dNot, dIfE, dChn, dCall, dCallK, dMake, aNil, aCons, dTup, dLst, dLstH, dFldC, dCB, dBM, tgN, tgSub, iL, iT, iR1, iR2, DEnds.xx, dLc, dLcH, dYes, dSl, oNon, oSome, nI2, nTup, nLst, nLstH, mApp, wipeD, dIn, dIsN, dNotN, dAddH, dMulH, iS, iEnS, iZipD, iZip3D, dIsB, dJoin, dRgT, dRgL, dRgH, dDNew, dDNewT, sDPutD, tru_bl, tru_int, add_int, add_tup, mul_int, len_tup, len_lst, len_fz, ne_int, eq_int, ne_bl, eq_bl, int_int, int_bl, ty_end, asL_lst, asL_fz, asS_tup, asS_lst, asS_fz, tgs_cons_eq, tgs_nil_eq, tg_tup_eq, tg_lst_eq, at_end, set_end, asS_end, asL_end, at_pre, set_pre, ty_pre, dTupRev, asS_tup, asS_lst, rz_end, rz_lst, mulT_tup, min3_eq, List.getElem?_cons_zero, List.getElem?_cons_succ, Option.some.injEq, exists_eq_left', exists_eq_left, exists_and_left, exists_and_right, and_assoc, D.int.injEq, D.bl.injEq, D.str.injEq, D.tup.injEq, D.lst.injEq, D.fz.injEq, D.ref.injEq, HB.lst.injEq, List.cons.injEq, and_true, true_and, List.set_cons_zero, List.set_cons_succ, List.map_cons, List.map_nil, List.length_cons, List.length_nil, Nat.reduceAdd, Nat.reduceSub, Nat.sub_self, Nat.zero_add, List.replicate_zero, List.replicate_succ, List.append_nil, List.cons_append, List.nil_append, decide_eq_true_eq, decide_eq_false_iff_not, Bool.not_eq_true', Bool.not_eq_false', Bool.true_eq_false, Bool.false_eq_true, false_implies, forall_const, true_implies, reduceCtorEq, and_false, false_and, Bool.not_true, Bool.not_false, if_true, if_false, isT_00, isT_01, isT_02, isT_03, isT_04, plB_0, isT_10, isT_11, isT_12, isT_13, isT_14, plB_1, isT_20, isT_21, isT_22, isT_23, isT_24, plB_2, isT_30, isT_31, isT_32, isT_33, isT_34, plB_3, isT_40, isT_41, isT_42, isT_43, isT_44, plB_4, isT_50, isT_51, isT_52, isT_53, isT_54, plB_5, isT_60, isT_61, isT_62, isT_63, isT_64, plB_6, plB_0, plB_1, plB_2, plB_3, plB_4, plB_5, plB_6, isi_00, isi_01, isi_02, isi_03, isi_04, isi_lt_0, isi_tl_0, isi_10, isi_11, isi_12, isi_13, isi_14, isi_lt_1, isi_tl_1, isi_20, isi_21, isi_22, isi_23, isi_24, isi_lt_2, isi_tl_2, isi_30, isi_31, isi_32, isi_33, isi_34, isi_lt_3, isi_tl_3, isi_40, isi_41, isi_42, isi_43, isi_44, isi_lt_4, isi_tl_4, isi_50, isi_51, isi_52, isi_53, isi_54, isi_lt_5, isi_tl_5, isi_60, isi_61, isi_62, isi_63, isi_64, isi_lt_6, isi_tl_6, isN_0, isN_1, isN_2, isN_3, isN_4, isN_5, isN_6, sizeLine_eq, Nat.reduceLeDiff, Nat.reduceLT, Nat.le_refl, Nat.zero_le, sTry]
  refine ⟨L, row, rfl, ok, fun hle due du => ?_, fun hgt => disp_yes List.mem_cons_self fun a dd => ?_⟩
  · try simp only [sSeq, sNil, sIf, sRet, sRetN, sSet, sAsg, sExpr, sNever, sFor, sNox, sBrk, sCont, sFldD, sAug, sAugS, dVar, dC, dOp, dI0, dII, dNeg, dInv, dAndV, dOrV, dNotV, dTst, dTru, dAnd, dOr, dNot, dIfE, dChn, dCall, dCallK, dMake, aNil, aCons, dTup, dLst, dLstH, dFldC, dCB, dBM, tgN, tgSub, iL, iT, iR1, iR2, DEnds.xx, dLc, dLcH, dYes, dSl, oNon, oSome, nI2, nTup, nLst, nLstH, mApp, wipeD, dIn, dIsN, dNotN, dAddH, dMulH, iS, iEnS, iZipD, iZip3D, dIsB, dJoin, dRgT, dRgL, dRgH, dDNew, dDNewT, sDPutD, tru_bl, tru_int, add_int, add_tup, mul_int, len_tup, len_lst, len_fz, ne_int, eq_int, ne_bl, eq_bl, int_int, int_bl, ty_end, asL_lst, asL_fz, asS_tup, asS_lst, asS_fz, tgs_cons_eq, tgs_nil_eq, tg_tup_eq, tg_lst_eq, at_end, set_end, asS_end, asL_end, at_pre, set_pre, ty_pre, dTupRev, asS_tup, asS_lst, rz_end, rz_lst, mulT_tup, min3_eq, List.getElem?_cons_zero, List.getElem?_cons_succ, Option.some.injEq, exists_eq_left', exists_eq_left, exists_and_left, exists_and_right, and_assoc, D.int.injEq, D.bl.injEq, D.str.injEq, D.tup.injEq, D.lst.injEq, D.fz.injEq, D.ref.injEq, HB.lst.injEq, List.cons.injEq, and_true, true_and, List.set_cons_zero, List.set_cons_succ, List.map_cons, List.map_nil, List.length_cons, List.length_nil, Nat.reduceAdd, Nat.reduceSub, Nat.sub_self, Nat.zero_add, List.replicate_zero, List.replicate_succ, List.append_nil, List.cons_append, List.nil_append, decide_eq_true_eq, decide_eq_false_iff_not, Bool.not_eq_true', Bool.not_eq_false', Bool.true_eq_false, Bool.false_eq_true, false_implies, forall_const, true_implies, reduceCtorEq, and_false, false_and, Bool.not_true, Bool.not_false, if_true, if_false, isT_00, isT_01, isT_02, isT_03, isT_04, plB_0, isT_10, isT_11, isT_12, isT_13, isT_14, plB_1, isT_20, isT_21, isT_22, isT_23, isT_24, plB_2, isT_30, isT_31, isT_32, isT_33, isT_34, plB_3, isT_40, isT_41, isT_42, isT_43, isT_44, plB_4, isT_50, isT_51, isT_52, isT_53, isT_54, plB_5, isT_60, isT_61, isT_62, isT_63, isT_64, plB_6, plB_0, plB_1, plB_2, plB_3, plB_4, plB_5, plB_6, isi_00, isi_01, isi_02, isi_03, isi_04, isi_lt_0, isi_tl_0, isi_10, isi_11, isi_12, isi_13, isi_14, isi_lt_1, isi_tl_1, isi_20, isi_21, isi_22, isi_23, isi_24, isi_lt_2, isi_tl_2, isi_30, isi_31, isi_32, isi_33, isi_34, isi_lt_3, isi_tl_3, isi_40, isi_41, isi_42, isi_43, isi_44, isi_lt_4, isi_tl_4, isi_50, isi_51, isi_52, isi_53, isi_54, isi_lt_5, isi_tl_5, isi_60, isi_61, isi_62, isi_63, isi_64, isi_lt_6, isi_tl_6, isN_0, isN_1, isN_2, isN_3, isN_4, isN_5, isN_6, sizeLine_eq, Nat.reduceLeDiff, Nat.reduceLT, Nat.le_refl, Nat.zero_le]
    exact rt_keep (q1 hle due du)
  · simp only [sSeq, sNil, sIf, sRet, sRetN, sSet, sAsg, sExpr, sNever, sFor, sNox, sBrk, sCont, sFldD, sAug, sAugS, dVar, dC, dOp, dI0, dII, dNeg, dInv, dAndV, dOrV, dNotV, dTst, dTru, dAnd, dOr, dNot, dIfE, dChn, dCall, dCallK, dMake, aNil, aCons, dTup, dLst, dLstH, dFldC, dCB, dBM, tgN, tgSub, iL, iT, iR1, iR2, DEnds.xx, dLc, dLcH, dYes, dSl, oNon, oSome, nI2, nTup, nLst, nLstH, mApp, wipeD, dIn, dIsN, dNotN, dAddH, dMulH, iS, iEnS, iZipD, iZip3D, dIsB, dJoin, dRgT, dRgL, dRgH, dDNew, dDNewT, sDPutD, tru_bl, tru_int, add_int, add_tup, mul_int, len_tup, len_lst, len_fz, ne_int, eq_int, ne_bl, eq_bl, int_int, int_bl, ty_end, asL_lst, asL_fz, asS_tup, asS_lst, asS_fz, tgs_cons_eq, tgs_nil_eq, tg_tup_eq, tg_lst_eq, at_end, set_end, asS_end, asL_end, at_pre, set_pre, ty_pre, dTupRev, asS_tup, asS_lst, rz_end, rz_lst, mulT_tup, min3_eq, List.getElem?_cons_zero, List.getElem?_cons_succ, Option.some.injEq, exists_eq_left', exists_eq_left, exists_and_left, exists_and_right, and_assoc, D.int.injEq, D.bl.injEq, D.str.injEq, D.tup.injEq, D.lst.injEq, D.fz.injEq, D.ref.injEq, HB.lst.injEq, List.cons.injEq, and_true, true_and, List.set_cons_zero, List.set_cons_succ, List.map_cons, List.map_nil, List.length_cons, List.length_nil, Nat.reduceAdd, Nat.reduceSub, Nat.sub_self, Nat.zero_add, List.replicate_zero, List.replicate_succ, List.append_nil, List.cons_append, List.nil_append, decide_eq_true_eq, decide_eq_false_iff_not, Bool.not_eq_true', Bool.not_eq_false', Bool.true_eq_false, Bool.false_eq_true, false_implies, forall_const, true_implies, reduceCtorEq, and_false, false_and, Bool.not_true, Bool.not_false, if_true, if_false, isT_00, isT_01, isT_02, isT_03, isT_04, plB_0, isT_10, isT_11, isT_12, isT_13, isT_14, plB_1, isT_20, isT_21, isT_22, isT_23, isT_24, plB_2, isT_30, isT_31, isT_32, isT_33, isT_34, plB_3, isT_40, isT_41, isT_42, isT_43, isT_44, plB_4, isT_50, isT_51, isT_52, isT_53, isT_54, plB_5, isT_60, isT_61, isT_62, isT_63, isT_64, plB_6, plB_0, plB_1, plB_2, plB_3, plB_4, plB_5, plB_6, isi_00, isi_01, isi_02, isi_03, isi_04, isi_lt_0, isi_tl_0, isi_10, isi_11, isi_12, isi_13, isi_14, isi_lt_1, isi_tl_1, isi_20, isi_21, isi_22, isi_23, isi_24, isi_lt_2, isi_tl_2, isi_30, isi_31, isi_32, isi_33, isi_34, isi_lt_3, isi_tl_3, isi_40, isi_41, isi_42, isi_43, isi_44, isi_lt_4, isi_tl_4, isi_50, isi_51, isi_52, isi_53, isi_54, isi_lt_5, isi_tl_5, isi_60, isi_61, isi_62, isi_63, isi_64, isi_lt_6, isi_tl_6, isN_0, isN_1, isN_2, isN_3, isN_4, isN_5, isN_6, goneD, dExF]
    refine isE_eq (b := false) trivial (.head _) ⟨_, rfl, (fun z => nomatch z), fun _ => isE_eq (b := true) trivial (.tail _ (.head _)) ⟨_, rfl, (fun z => nomatch z), fun _ => isE_eq (b := true) trivial (.tail _ (.tail _ (.head _))) ⟨_, rfl, (fun z => nomatch z), fun _ => (exF_eq rfl).mpr ?_⟩⟩⟩
    simp only [sSeq, sNil, sIf, sRet, sRetN, sSet, sAsg, sExpr, sNever, sFor, sNox, sBrk, sCont, sFldD, sAug, sAugS, dVar, dC, dOp, dI0, dII, dNeg, dInv, dAndV, dOrV, dNotV, dTst, dTru, dAnd, dOr, dNot, dIfE, dChn, dCall, dCallK, dMake, aNil, aCons, dTup, dLst, dLstH, dFldC, dCB, dBM, tgN, tgSub, iL, iT, iR1, iR2, DEnds.xx, dLc, dLcH, dYes, dSl, oNon, oSome, nI2, nTup, nLst, nLstH, mApp, wipeD, dIn, dIsN, dNotN, dAddH, dMulH, iS, iEnS, iZipD, iZip3D, dIsB, dJoin, dRgT, dRgL, dRgH, dDNew, dDNewT, sDPutD, tru_bl, tru_int, add_int, add_tup, mul_int, len_tup, len_lst, len_fz, ne_int, eq_int, ne_bl, eq_bl, int_int, int_bl, ty_end, asL_lst, asL_fz, asS_tup, asS_lst, asS_fz, tgs_cons_eq, tgs_nil_eq, tg_tup_eq, tg_lst_eq, at_end, set_end, asS_end, asL_end, at_pre, set_pre, ty_pre, dTupRev, asS_tup, asS_lst, rz_end, rz_lst, mulT_tup, min3_eq, List.getElem?_cons_zero, List.getElem?_cons_succ, Option.some.injEq, exists_eq_left', exists_eq_left, exists_and_left, exists_and_right, and_assoc, D.int.injEq, D.bl.injEq, D.str.injEq, D.tup.injEq, D.lst.injEq, D.fz.injEq, D.ref.injEq, HB.lst.injEq, List.cons.injEq, and_true, true_and, List.set_cons_zero, List.set_cons_succ, List.map_cons, List.map_nil, List.length_cons, List.length_nil, Nat.reduceAdd, Nat.reduceSub, Nat.sub_self, Nat.zero_add, List.replicate_zero, List.replicate_succ, List.append_nil, List.cons_append, List.nil_append, decide_eq_true_eq, decide_eq_false_iff_not, Bool.not_eq_true', Bool.not_eq_false', Bool.true_eq_false, Bool.false_eq_true, false_implies, forall_const, true_implies, reduceCtorEq, and_false, false_and, Bool.not_true, Bool.not_false, if_true, if_false, isT_00, isT_01, isT_02, isT_03, isT_04, plB_0, isT_10, isT_11, isT_12, isT_13, isT_14, plB_1, isT_20, isT_21, isT_22, isT_23, isT_24, plB_2, isT_30, isT_31, isT_32, isT_33, isT_34, plB_3, isT_40, isT_41, isT_42, isT_43, isT_44, plB_4, isT_50, isT_51, isT_52, isT_53, isT_54, plB_5, isT_60, isT_61, isT_62, isT_63, isT_64, plB_6, plB_0, plB_1, plB_2, plB_3, plB_4, plB_5, plB_6, isi_00, isi_01, isi_02, isi_03, isi_04, isi_lt_0, isi_tl_0, isi_10, isi_11, isi_12, isi_13, isi_14, isi_lt_1, isi_tl_1, isi_20, isi_21, isi_22, isi_23, isi_24, isi_lt_2, isi_tl_2, isi_30, isi_31, isi_32, isi_33, isi_34, isi_lt_3, isi_tl_3, isi_40, isi_41, isi_42, isi_43, isi_44, isi_lt_4, isi_tl_4, isi_50, isi_51, isi_52, isi_53, isi_54, isi_lt_5, isi_tl_5, isi_60, isi_61, isi_62, isi_63, isi_64, isi_lt_6, isi_tl_6, isN_0, isN_1, isN_2, isN_3, isN_4, isN_5, isN_6, sizeLine_eq, Nat.reduceLeDiff, Nat.reduceLT, Nat.le_refl, Nat.zero_le]
    have so : OkD 60 (.str (Str.ofString "words")) := by show PyData.strOk _ = true; decide +kernel
    have sd : deq (.str (Str.ofString "words")) (.str (Str.ofString "words")) = true := by decide +kernel
    refine (exF_eq rfl).mpr ?_
    refine ⟨so, so, false, ?_, (fun z => nomatch z), fun _ => rt_keep (q2 hgt)⟩
    show D.bl (!deq (.str (Str.ofString "words")) (.str (Str.ofString "words"))) = _
    rw [sd]; rfl
end L2.MW.K34

namespace L2.MW.K34
open PySem PySem.Spec PyProof.Rows L2 L2.MW
theorem rd_law_right (ds : List D) (h : DHp) (X : DX) (Q : DK) (hn : ds.length = 3) (c : ct__law_right ds h X Q) : tb__law_right (endsD h X Q) (startD N__law_right.length ds) h := by
  obtain ⟨L, row, due, rfl, ok, du, q⟩ := c
  have ld := du.pm.length_eq
  have pre : ∀ k, row <+: cloF row k := fun k => by
    induction k with
    | zero => exact List.prefix_rfl
    | succ k ih =>
      show row <+: (if k < (cloF row k).length ∧ (cloF row k).length ≤ 40 then stepC (cloF row k) k else cloF row k)
      split
      · exact ih.trans (fold_pre _)
      · exact ih
  have rne : due ≠ [] := fun z => by
    have p0 : 0 < row.length := List.length_pos_iff.mpr ok.ne
    have := (pre 41).length_le
    rw [z] at ld
    simp only [List.length_nil] at ld
    omega
  simp only [tb__law_right, startD, sSeq, sNil, sIf, sRet, sRetN, sSet, sAsg, sExpr, sNever, sFor, sNox, sBrk, sCont, sFldD, sAug, sAugS, dVar, dC, dOp, dI0, dII, dNeg, dInv, dAndV, dOrV, dNotV, dTst, dTru, dAnd, dOr, dNot, dIfE, dChn, dCall, dCallK, dMake, aNil, aCons, dTup, dLst, dLstH, dFldC, dCB, dBM, tgN, tgSub, iL, iT, iR1, iR2, DEnds.xx, dLc, dLcH, dYes, dSl, oNon, oSome, nI2, nTup, nLst, nLstH, mApp, wipeD, dIn, dIsN, dNotN, dAddH, dMulH, iS, iEnS, iZipD, iZip3D, dIsB, dJoin, dRgT, dRgL, dRgH, dDNew, dDNewT, sDPutD, tru_bl, tru_int, add_int, add_tup, mul_int, len_tup, len_lst, len_fz, ne_int, eq_int, ne_bl, eq_bl, int_int, int_bl, ty_end, asL_lst, asL_fz, asS_tup, asS_lst, asS_fz, tgs_cons_eq, tgs_nil_eq, tg_tup_eq, tg_lst_eq, at_end, set_end, asS_end, asL_end, at_pre, set_pre, ty_pre, dTupRev, asS_tup, asS_lst, rz_end, rz_lst, mulT_tup, min3_eq, List.getElem?_cons_zero, List.getElem?_cons_succ, Option.some.injEq, exists_eq_left', exists_eq_left, exists_and_left, exists_and_right, and_assoc, D.int.injEq, D.bl.injEq, D.str.injEq, D.tup.injEq, D.lst.injEq, D.fz.injEq, D.ref.injEq, HB.lst.injEq, List.cons.injEq, and_true, true_and, List.set_cons_zero, List.set_cons_succ, List.map_cons, List.map_nil, List.length_cons, List.length_nil, Nat.reduceAdd, Nat.reduceSub, Nat.sub_self, Nat.zero_add, List.replicate_zero, List.replicate_succ, List.append_nil, List.cons_append, List.nil_append, decide_eq_true_eq, decide_eq_false_iff_not, Bool.not_eq_true', Bool.not_eq_false', Bool.true_eq_false, Bool.false_eq_true, false_implies, forall_const, true_implies, reduceCtorEq, and_false, false_and, Bool.not_true, Bool.not_false, if_true, if_false, isT_00, isT_01, isT_02, isT_03, isT_04, plB_0, isT_10, isT_11, isT_12, isT_13, isT_14, plB_1, isT_20, isT_21, isT_22, isT_23, isT_24, plB_2, isT_30, isT_31, isT_32, isT_33, isT_34, plB_3, isT_40, isT_41, isT_42, isT_43, isT_44, plB_4, isT_50, isT_51, isT_52, isT_53, isT_54, plB_5, isT_60, isT_61, isT_62, isT_63, isT_64, plB_6, plB_0, plB_1, plB_2, plB_3, plB_4, plB_5, plB_6, isi_00, isi_01, isi_02, isi_03, isi_04, isi_lt_0, isi_tl_0, isi_10, isi_11, isi_12, isi_13, isi_14, isi_lt_1, isi_tl_1, isi_20, isi_21, isi_22, isi_23, isi_24, isi_lt_2, isi_tl_2, isi_30, isi_31, isi_32, isi_33, isi_34, isi_lt_3, isi_tl_3, isi_40, isi_41, isi_42, isi_43, isi_44, isi_lt_4, isi_tl_4, isi_50, isi_51, isi_52, isi_53, isi_54, isi_lt_5, isi_tl_5, isi_60, isi_61, isi_62, isi_63, isi_64, isi_lt_6, isi_tl_6, isN_0, isN_1, isN_2, isN_3, isN_4, isN_5, isN_6, sizeLine_eq, Nat.reduceLeDiff, Nat.reduceLT, Nat.le_refl, Nat.zero_le]
  refine ⟨L, row, rfl, ok, fun hle due' du' => ?_, fun hgt => ?_⟩
  · have e := due_uniq du' du
    subst e
    simp only [sSeq, sNil, sIf, sRet, sRetN, sSet, sAsg, sExpr, sNever, sFor, sNox, sBrk, sCont, sFldD, sAug, sAugS, dVar, dC, dOp, dI0, dII, dNeg, dInv, dAndV, dOrV, dNotV, dTst, dTru, dAnd, dOr, dNot, dIfE, dChn, dCall, dCallK, dMake, aNil, aCons, dTup, dLst, dLstH, dFldC, dCB, dBM, tgN, tgSub, iL, iT, iR1, iR2, DEnds.xx, dLc, dLcH, dYes, dSl, oNon, oSome, nI2, nTup, nLst, nLstH, mApp, wipeD, dIn, dIsN, dNotN, dAddH, dMulH, iS, iEnS, iZipD, iZip3D, dIsB, dJoin, dRgT, dRgL, dRgH, dDNew, dDNewT, sDPutD, tru_bl, tru_int, add_int, add_tup, mul_int, len_tup, len_lst, len_fz, ne_int, eq_int, ne_bl, eq_bl, int_int, int_bl, ty_end, asL_lst, asL_fz, asS_tup, asS_lst, asS_fz, tgs_cons_eq, tgs_nil_eq, tg_tup_eq, tg_lst_eq, at_end, set_end, asS_end, asL_end, at_pre, set_pre, ty_pre, dTupRev, asS_tup, asS_lst, rz_end, rz_lst, mulT_tup, min3_eq, List.getElem?_cons_zero, List.getElem?_cons_succ, Option.some.injEq, exists_eq_left', exists_eq_left, exists_and_left, exists_and_right, and_assoc, D.int.injEq, D.bl.injEq, D.str.injEq, D.tup.injEq, D.lst.injEq, D.fz.injEq, D.ref.injEq, HB.lst.injEq, List.cons.injEq, and_true, true_and, List.set_cons_zero, List.set_cons_succ, List.map_cons, List.map_nil, List.length_cons, List.length_nil, Nat.reduceAdd, Nat.reduceSub, Nat.sub_self, Nat.zero_add, List.replicate_zero, List.replicate_succ, List.append_nil, List.cons_append, List.nil_append, decide_eq_true_eq, decide_eq_false_iff_not, Bool.not_eq_true', Bool.not_eq_false', Bool.true_eq_false, Bool.false_eq_true, false_implies, forall_const, true_implies, reduceCtorEq, and_false, false_and, Bool.not_true, Bool.not_false, if_true, if_false, isT_00, isT_01, isT_02, isT_03, isT_04, plB_0, isT_10, isT_11, isT_12, isT_13, isT_14, plB_1, isT_20, isT_21, isT_22, isT_23, isT_24, plB_2, isT_30, isT_31, isT_32, isT_33, isT_34, plB_3, isT_40, isT_41, isT_42, isT_43, isT_44, plB_4, isT_50, isT_51, isT_52, isT_53, isT_54, plB_5, isT_60, isT_61, isT_62, isT_63, isT_64, plB_6, plB_0, plB_1, plB_2, plB_3, plB_4, plB_5, plB_6, isi_00, isi_01, isi_02, isi_03, isi_04, isi_lt_0, isi_tl_0, isi_10, isi_11, isi_12, isi_13, isi_14, isi_lt_1, isi_tl_1, isi_20, isi_21, isi_22, isi_23, isi_24, isi_lt_2, isi_tl_2, isi_30, isi_31, isi_32, isi_33, isi_34, isi_lt_3, isi_tl_3, isi_40, isi_41, isi_42, isi_43, isi_44, isi_lt_4, isi_tl_4, isi_50, isi_51, isi_52, isi_53, isi_54, isi_lt_5, isi_tl_5, isi_60, isi_61, isi_62, isi_63, isi_64, isi_lt_6, isi_tl_6, isN_0, isN_1, isN_2, isN_3, isN_4, isN_5, isN_6, sizeLine_eq, Nat.reduceLeDiff, Nat.reduceLT, Nat.le_refl, Nat.zero_le, nats_len, ix_lst atI_0, ix_lst atI_1]
    refine ⟨fun z => absurd z (by omega), fun _ => ?_⟩
    exact ⟨fun _ => ⟨L, due', rfl, ⟨ok.le, du.rn, rne, by omega⟩, rt_keep q⟩, fun z => absurd z (by decide)⟩
  · simp only [sSeq, sNil, sIf, sRet, sRetN, sSet, sAsg, sExpr, sNever, sFor, sNox, sBrk, sCont, sFldD, sAug, sAugS, dVar, dC, dOp, dI0, dII, dNeg, dInv, dAndV, dOrV, dNotV, dTst, dTru, dAnd, dOr, dNot, dIfE, dChn, dCall, dCallK, dMake, aNil, aCons, dTup, dLst, dLstH, dFldC, dCB, dBM, tgN, tgSub, iL, iT, iR1, iR2, DEnds.xx, dLc, dLcH, dYes, dSl, oNon, oSome, nI2, nTup, nLst, nLstH, mApp, wipeD, dIn, dIsN, dNotN, dAddH, dMulH, iS, iEnS, iZipD, iZip3D, dIsB, dJoin, dRgT, dRgL, dRgH, dDNew, dDNewT, sDPutD, tru_bl, tru_int, add_int, add_tup, mul_int, len_tup, len_lst, len_fz, ne_int, eq_int, ne_bl, eq_bl, int_int, int_bl, ty_end, asL_lst, asL_fz, asS_tup, asS_lst, asS_fz, tgs_cons_eq, tgs_nil_eq, tg_tup_eq, tg_lst_eq, at_end, set_end, asS_end, asL_end, at_pre, set_pre, ty_pre, dTupRev, asS_tup, asS_lst, rz_end, rz_lst, mulT_tup, min3_eq, List.getElem?_cons_zero, List.getElem?_cons_succ, Option.some.injEq, exists_eq_left', exists_eq_left, exists_and_left, exists_and_right, and_assoc, D.int.injEq, D.bl.injEq, D.str.injEq, D.tup.injEq, D.lst.injEq, D.fz.injEq, D.ref.injEq, HB.lst.injEq, List.cons.injEq, and_true, true_and, List.set_cons_zero, List.set_cons_succ, List.map_cons, List.map_nil, List.length_cons, List.length_nil, Nat.reduceAdd, Nat.reduceSub, Nat.sub_self, Nat.zero_add, List.replicate_zero, List.replicate_succ, List.append_nil, List.cons_append, List.nil_append, decide_eq_true_eq, decide_eq_false_iff_not, Bool.not_eq_true', Bool.not_eq_false', Bool.true_eq_false, Bool.false_eq_true, false_implies, forall_const, true_implies, reduceCtorEq, and_false, false_and, Bool.not_true, Bool.not_false, if_true, if_false, isT_00, isT_01, isT_02, isT_03, isT_04, plB_0, isT_10, isT_11, isT_12, isT_13, isT_14, plB_1, isT_20, isT_21, isT_22, isT_23, isT_24, plB_2, isT_30, isT_31, isT_32, isT_33, isT_34, plB_3, isT_40, isT_41, isT_42, isT_43, isT_44, plB_4, isT_50, isT_51, isT_52, isT_53, isT_54, plB_5, isT_60, isT_61, isT_62, isT_63, isT_64, plB_6, plB_0, plB_1, plB_2, plB_3, plB_4, plB_5, plB_6, isi_00, isi_01, isi_02, isi_03, isi_04, isi_lt_0, isi_tl_0, isi_10, isi_11, isi_12, isi_13, isi_14, isi_lt_1, isi_tl_1, isi_20, isi_21, isi_22, isi_23, isi_24, isi_lt_2, isi_tl_2, isi_30, isi_31, isi_32, isi_33, isi_34, isi_lt_3, isi_tl_3, isi_40, isi_41, isi_42, isi_43, isi_44, isi_lt_4, isi_tl_4, isi_50, isi_51, isi_52, isi_53, isi_54, isi_lt_5, isi_tl_5, isi_60, isi_61, isi_62, isi_63, isi_64, isi_lt_6, isi_tl_6, isN_0, isN_1, isN_2, isN_3, isN_4, isN_5, isN_6, sizeLine_eq, Nat.reduceLeDiff, Nat.reduceLT, Nat.le_refl, Nat.zero_le, nats_len]
    have e1 : deq (.lst [.int 1]) (.lst [.int 1]) = true := by decide +kernel
    refine ⟨fun _ => ⟨nats_ok (row := [1]), nats_ok (row := [1]), ?_⟩, fun z => absurd z (by omega)⟩
    show (endsD h X Q).rt (.bl (deq (.lst [.int 1]) (.lst [.int 1]))) h
    rw [e1]
    exact rt_keep q
end L2.MW.K34

namespace L2.MW.K34
open PySem PySem.Spec PyProof.Rows L2 L2.MW
def pcs (ns : List Nat) (k i j : Nat) : List Nat := ((List.range i).flatMap fun j => (List.range j).map fun t => mjAt ns t j k) ++ (List.range j).map fun t => mjAt ns t i k
def cur (ns : List Nat) (k i j : Nat) : List Nat := (pcs ns k i j).foldl addN ns
theorem cur_z {ns : List Nat} {k : Nat} : cur ns k 0 0 = ns := rfl
theorem cur_j {ns : List Nat} {k i j : Nat} : cur ns k i (j + 1) = addN (cur ns k i j) (mjAt ns j i k) := by
  unfold cur pcs
  rw [List.range_succ, List.map_append, ← List.append_assoc, List.foldl_append]; rfl
theorem cur_i {ns : List Nat} {k i : Nat} : cur ns k (i + 1) 0 = cur ns k i i := by
  unfold cur pcs
  rw [List.range_succ, List.flatMap_append]
  simp
theorem cur_k {ns : List Nat} {k : Nat} : cur ns k k 0 = stepC ns k := by
  unfold cur pcs stepC cands
  simp
theorem cur_len {ns : List Nat} {k : Nat} (h : ns.length ≤ 40) : ∀ i j, i ≤ 40 → j ≤ i → (cur ns k i j).length ≤ 40 + i * 41 + j := by
  intro i
  induction i with
  | zero =>
    intro j _ hj
    have : j = 0 := by omega
    subst this
    rw [cur_z]; omega
  | succ i ih =>
    intro j hi
    induction j with
    | zero => intro _; rw [cur_i]; have := ih i (by omega) (Nat.le_refl _); omega
    | succ j ihj =>
      intro hj
      rw [cur_j]
      have := addN_len (ns := cur ns k (i + 1) j) (m := mjAt ns j (i + 1) k)
      have := ihj (by omega)
      omega
theorem pre_getD {a b : List Nat} (p : a <+: b) {i : Nat} (hi : i < a.length) : b.getD i 0 = a.getD i 0 := by
  obtain ⟨t, rfl⟩ := p
  rw [List.getD_eq_getElem?_getD, List.getD_eq_getElem?_getD, List.getElem?_append_left hi]
theorem mj_com (a b c : Nat) : mj a b c = mj b a c := by
  unfold mj
  rw [Nat.and_comm a b, Nat.or_comm a b]
end L2.MW.K34

namespace L2.MW.K34
open PySem PySem.Spec PyProof.Rows L2 L2.MW
theorem rd_law_closure (ds : List D) (h : DHp) (X : DX) (Q : DK) (hn : ds.length = 2) (c : ct__law_closure ds h X Q) : tb__law_closure (endsD h X Q) (startD N__law_closure.length ds) h := by
  obtain ⟨L, row, rfl, ok, q⟩ := c
  have few := ok.few
  have F0 : Fnd L row := ⟨ok.rn.up.imp fun {a b} hab => Nat.ne_of_lt hab, ok.rn.lt⟩
  have len1 : ∀ b : HB, (h ++ [b]).length = h.length + 1 := fun b => by simp
  have app2 : ∀ b c : HB, h ++ [b] ++ [c] = h ++ [b, c] := fun b c => by simp
  have fin : ∀ {k : Nat} {l : List (Int × D)}, k ≤ 41 → ¬ (k < (cloF row k).length ∧ (cloF row k).length ≤ 40) → nSrtI [.ref h.length] (h ++ [.lst (nats (cloF row k)), .dk l]) (endsD h X Q).rt := fun {k l} hk hs =>
    sorted_rowP (asL_ref at1) (cloF_fnd F0 k).nd (cloF_fnd F0 k).lt fun due rn' pm => rt_back Bds_nats (q due ⟨rn', by rw [cloF_end hk hs]; exact pm⟩)
  simp only [tb__law_closure, startD, sSeq, sNil, sIf, sRet, sRetN, sSet, sAsg, sExpr, sNever, sFor, sNox, sBrk, sCont, sFldD, sAug, sAugS, dVar, dC, dOp, dI0, dII, dNeg, dInv, dAndV, dOrV, dNotV, dTst, dTru, dAnd, dOr, dNot, dIfE, dChn, dCall, dCallK, dMake, aNil, aCons, dTup, dLst, dLstH, dFldC, dCB, dBM, tgN, tgSub, iL, iT, iR1, iR2, DEnds.xx, dLc, dLcH, dYes, dSl, oNon, oSome, nI2, nTup, nLst, nLstH, mApp, wipeD, dIn, dIsN, dNotN, dAddH, dMulH, iS, iEnS, iZipD, iZip3D, dIsB, dJoin, dRgT, dRgL, dRgH, dDNew, dDNewT, sDPutD, tru_bl, tru_int, add_int, add_tup, mul_int, len_tup, len_lst, len_fz, ne_int, eq_int, ne_bl, eq_bl, int_int, int_bl, ty_end, asL_lst, asL_fz, asS_tup, asS_lst, asS_fz, tgs_cons_eq, tgs_nil_eq, tg_tup_eq, tg_lst_eq, at_end, set_end, asS_end, asL_end, at_pre, set_pre, ty_pre, dTupRev, asS_tup, asS_lst, rz_end, rz_lst, mulT_tup, min3_eq, List.getElem?_cons_zero, List.getElem?_cons_succ, Option.some.injEq, exists_eq_left', exists_eq_left, exists_and_left, exists_and_right, and_assoc, D.int.injEq, D.bl.injEq, D.str.injEq, D.tup.injEq, D.lst.injEq, D.fz.injEq, D.ref.injEq, HB.lst.injEq, List.cons.injEq, and_true, true_and, List.set_cons_zero, List.set_cons_succ, List.map_cons, List.map_nil, List.length_cons, List.length_nil, Nat.reduceAdd, Nat.reduceSub, Nat.sub_self, Nat.zero_add, List.replicate_zero, List.replicate_succ, List.append_nil, List.cons_append, List.nil_append, decide_eq_true_eq, decide_eq_false_iff_not, Bool.not_eq_true', Bool.not_eq_false', Bool.true_eq_false, Bool.false_eq_true, false_implies, forall_const, true_implies, reduceCtorEq, and_false, false_and, Bool.not_true, Bool.not_false, if_true, if_false, isT_00, isT_01, isT_02, isT_03, isT_04, plB_0, isT_10, isT_11, isT_12, isT_13, isT_14, plB_1, isT_20, isT_21, isT_22, isT_23, isT_24, plB_2, isT_30, isT_31, isT_32, isT_33, isT_34, plB_3, isT_40, isT_41, isT_42, isT_43, isT_44, plB_4, isT_50, isT_51, isT_52, isT_53, isT_54, plB_5, isT_60, isT_61, isT_62, isT_63, isT_64, plB_6, plB_0, plB_1, plB_2, plB_3, plB_4, plB_5, plB_6, isi_00, isi_01, isi_02, isi_03, isi_04, isi_lt_0, isi_tl_0, isi_10, isi_11, isi_12, isi_13, isi_14, isi_lt_1, isi_tl_1, isi_20, isi_21, isi_22, isi_23, isi_24, isi_lt_2, isi_tl_2, isi_30, isi_31, isi_32, isi_33, isi_34, isi_lt_3, isi_tl_3, isi_40, isi_41, isi_42, isi_43, isi_44, isi_lt_4, isi_tl_4, isi_50, isi_51, isi_52, isi_53, isi_54, isi_lt_5, isi_tl_5, isi_60, isi_61, isi_62, isi_63, isi_64, isi_lt_6, isi_tl_6, isN_0, isN_1, isN_2, isN_3, isN_4, isN_5, isN_6, sizeLine_eq, Nat.reduceLeDiff, Nat.reduceLT, Nat.le_refl, Nat.zero_le, len1, app2]
  refine forW_inv (nats row) (fun i σ h' => ∃ l o, h' = h ++ [.lst (nats row), .dk l] ∧ l.length ≤ i ∧ (∀ m : Nat, hasDK l (m : Int) = decide (m ∈ row.take i)) ∧ σ = [some (.lst (nats row)), some (.int 40), some (.ref h.length), some (.ref (h.length + 1)), o, none, none, none]) ⟨[], _, rfl, Nat.zero_le _, fun _ => by simp [hasDK], rfl⟩ (fun _ _ _ _ _ => rfl) ?_ ?_
  · rintro i x σ h' N hx ⟨l, o, rfl, hl, hm, rfl⟩ hN
    obtain ⟨n, hn, rfl, ht, hd2, hmm⟩ := get_map (f := fun (n : Nat) => D.int (n : Int)) hx
    have hi : i < row.length := (List.getElem?_eq_some_iff.mp hn).1
    simp only [sSeq, sNil, sIf, sRet, sRetN, sSet, sAsg, sExpr, sNever, sFor, sNox, sBrk, sCont, sFldD, sAug, sAugS, dVar, dC, dOp, dI0, dII, dNeg, dInv, dAndV, dOrV, dNotV, dTst, dTru, dAnd, dOr, dNot, dIfE, dChn, dCall, dCallK, dMake, aNil, aCons, dTup, dLst, dLstH, dFldC, dCB, dBM, tgN, tgSub, iL, iT, iR1, iR2, DEnds.xx, dLc, dLcH, dYes, dSl, oNon, oSome, nI2, nTup, nLst, nLstH, mApp, wipeD, dIn, dIsN, dNotN, dAddH, dMulH, iS, iEnS, iZipD, iZip3D, dIsB, dJoin, dRgT, dRgL, dRgH, dDNew, dDNewT, sDPutD, tru_bl, tru_int, add_int, add_tup, mul_int, len_tup, len_lst, len_fz, ne_int, eq_int, ne_bl, eq_bl, int_int, int_bl, ty_end, asL_lst, asL_fz, asS_tup, asS_lst, asS_fz, tgs_cons_eq, tgs_nil_eq, tg_tup_eq, tg_lst_eq, at_end, set_end, asS_end, asL_end, at_pre, set_pre, ty_pre, dTupRev, asS_tup, asS_lst, rz_end, rz_lst, mulT_tup, min3_eq, List.getElem?_cons_zero, List.getElem?_cons_succ, Option.some.injEq, exists_eq_left', exists_eq_left, exists_and_left, exists_and_right, and_assoc, D.int.injEq, D.bl.injEq, D.str.injEq, D.tup.injEq, D.lst.injEq, D.fz.injEq, D.ref.injEq, HB.lst.injEq, List.cons.injEq, and_true, true_and, List.set_cons_zero, List.set_cons_succ, List.map_cons, List.map_nil, List.length_cons, List.length_nil, Nat.reduceAdd, Nat.reduceSub, Nat.sub_self, Nat.zero_add, List.replicate_zero, List.replicate_succ, List.append_nil, List.cons_append, List.nil_append, decide_eq_true_eq, decide_eq_false_iff_not, Bool.not_eq_true', Bool.not_eq_false', Bool.true_eq_false, Bool.false_eq_true, false_implies, forall_const, true_implies, reduceCtorEq, and_false, false_and, Bool.not_true, Bool.not_false, if_true, if_false, isT_00, isT_01, isT_02, isT_03, isT_04, plB_0, isT_10, isT_11, isT_12, isT_13, isT_14, plB_1, isT_20, isT_21, isT_22, isT_23, isT_24, plB_2, isT_30, isT_31, isT_32, isT_33, isT_34, plB_3, isT_40, isT_41, isT_42, isT_43, isT_44, plB_4, isT_50, isT_51, isT_52, isT_53, isT_54, plB_5, isT_60, isT_61, isT_62, isT_63, isT_64, plB_6, plB_0, plB_1, plB_2, plB_3, plB_4, plB_5, plB_6, isi_00, isi_01, isi_02, isi_03, isi_04, isi_lt_0, isi_tl_0, isi_10, isi_11, isi_12, isi_13, isi_14, isi_lt_1, isi_tl_1, isi_20, isi_21, isi_22, isi_23, isi_24, isi_lt_2, isi_tl_2, isi_30, isi_31, isi_32, isi_33, isi_34, isi_lt_3, isi_tl_3, isi_40, isi_41, isi_42, isi_43, isi_44, isi_lt_4, isi_tl_4, isi_50, isi_51, isi_52, isi_53, isi_54, isi_lt_5, isi_tl_5, isi_60, isi_61, isi_62, isi_63, isi_64, isi_lt_6, isi_tl_6, isN_0, isN_1, isN_2, isN_3, isN_4, isN_5, isN_6, sizeLine_eq, Nat.reduceLeDiff, Nat.reduceLT, Nat.le_refl, Nat.zero_le, put_dk at2, set2]
    refine ⟨by omega, hN _ _ ⟨_, _, rfl, Nat.le_trans set_len (by omega), fun m => ?_, rfl⟩⟩
    rw [has_set, hm, List.take_succ, hn, Bool.eq_iff_iff]
    simp
    exact or_congr Iff.rfl (by omega)
  · rintro σ h' ⟨l, o, rfl, hl, hm, rfl⟩
    rw [nats_len] at hl
    simp only [sSeq, sNil, sIf, sRet, sRetN, sSet, sAsg, sExpr, sNever, sFor, sNox, sBrk, sCont, sFldD, sAug, sAugS, dVar, dC, dOp, dI0, dII, dNeg, dInv, dAndV, dOrV, dNotV, dTst, dTru, dAnd, dOr, dNot, dIfE, dChn, dCall, dCallK, dMake, aNil, aCons, dTup, dLst, dLstH, dFldC, dCB, dBM, tgN, tgSub, iL, iT, iR1, iR2, DEnds.xx, dLc, dLcH, dYes, dSl, oNon, oSome, nI2, nTup, nLst, nLstH, mApp, wipeD, dIn, dIsN, dNotN, dAddH, dMulH, iS, iEnS, iZipD, iZip3D, dIsB, dJoin, dRgT, dRgL, dRgH, dDNew, dDNewT, sDPutD, tru_bl, tru_int, add_int, add_tup, mul_int, len_tup, len_lst, len_fz, ne_int, eq_int, ne_bl, eq_bl, int_int, int_bl, ty_end, asL_lst, asL_fz, asS_tup, asS_lst, asS_fz, tgs_cons_eq, tgs_nil_eq, tg_tup_eq, tg_lst_eq, at_end, set_end, asS_end, asL_end, at_pre, set_pre, ty_pre, dTupRev, asS_tup, asS_lst, rz_end, rz_lst, mulT_tup, min3_eq, List.getElem?_cons_zero, List.getElem?_cons_succ, Option.some.injEq, exists_eq_left', exists_eq_left, exists_and_left, exists_and_right, and_assoc, D.int.injEq, D.bl.injEq, D.str.injEq, D.tup.injEq, D.lst.injEq, D.fz.injEq, D.ref.injEq, HB.lst.injEq, List.cons.injEq, and_true, true_and, List.set_cons_zero, List.set_cons_succ, List.map_cons, List.map_nil, List.length_cons, List.length_nil, Nat.reduceAdd, Nat.reduceSub, Nat.sub_self, Nat.zero_add, List.replicate_zero, List.replicate_succ, List.append_nil, List.cons_append, List.nil_append, decide_eq_true_eq, decide_eq_false_iff_not, Bool.not_eq_true', Bool.not_eq_false', Bool.true_eq_false, Bool.false_eq_true, false_implies, forall_const, true_implies, reduceCtorEq, and_false, false_and, Bool.not_true, Bool.not_false, if_true, if_false, isT_00, isT_01, isT_02, isT_03, isT_04, plB_0, isT_10, isT_11, isT_12, isT_13, isT_14, plB_1, isT_20, isT_21, isT_22, isT_23, isT_24, plB_2, isT_30, isT_31, isT_32, isT_33, isT_34, plB_3, isT_40, isT_41, isT_42, isT_43, isT_44, plB_4, isT_50, isT_51, isT_52, isT_53, isT_54, plB_5, isT_60, isT_61, isT_62, isT_63, isT_64, plB_6, plB_0, plB_1, plB_2, plB_3, plB_4, plB_5, plB_6, isi_00, isi_01, isi_02, isi_03, isi_04, isi_lt_0, isi_tl_0, isi_10, isi_11, isi_12, isi_13, isi_14, isi_lt_1, isi_tl_1, isi_20, isi_21, isi_22, isi_23, isi_24, isi_lt_2, isi_tl_2, isi_30, isi_31, isi_32, isi_33, isi_34, isi_lt_3, isi_tl_3, isi_40, isi_41, isi_42, isi_43, isi_44, isi_lt_4, isi_tl_4, isi_50, isi_51, isi_52, isi_53, isi_54, isi_lt_5, isi_tl_5, isi_60, isi_61, isi_62, isi_63, isi_64, isi_lt_6, isi_tl_6, isN_0, isN_1, isN_2, isN_3, isN_4, isN_5, isN_6, sizeLine_eq, Nat.reduceLeDiff, Nat.reduceLT, Nat.le_refl, Nat.zero_le]
    refine ⟨by constructor <;> decide, ?_⟩
    refine forW_inv (rgD 0 (Int.toNat (40 + 1))) (fun k σ h' => ∃ l o4 o5 o6 o7, (∀ m : Nat, hasDK l (m : Int) = decide (m ∈ cloF row k)) ∧ l.length ≤ (cloF row k).length ∧ k ≤ (cloF row k).length ∧ (cloF row k).length ≤ 1700 ∧ h' = h ++ [.lst (nats (cloF row k)), .dk l] ∧ σ = [some (.lst (nats row)), some (.int 40), some (.ref h.length), some (.ref (h.length + 1)), o4, o5, o6, o7]) ⟨l, _, _, _, _, fun m => by rw [hm, nats_len, List.take_length]; rfl, hl, Nat.zero_le _, by show row.length ≤ _; omega, rfl, rfl⟩ (fun _ _ _ _ _ => trivial) ?_ ?_
    · rintro k x σ h' N hx ⟨l, o4, o5, o6, o7, hm, hl, h1, h2, rfl, rfl⟩ hN
      obtain ⟨rfl, hk⟩ := rg_get hx
      have hk41 : k < 41 := hk
      have lf : ∀ {Q : DK}, nLen [.ref h.length] (h ++ [.lst (nats (cloF row k)), .dk l]) Q ↔ Q (.int ((cloF row k).length : Nat)) (h ++ [.lst (nats (cloF row k)), .dk l]) := fun {Q} => by rw [len_eq (asS_ref at1), nats_len]
      simp only [sSeq, sNil, sIf, sRet, sRetN, sSet, sAsg, sExpr, sNever, sFor, sNox, sBrk, sCont, sFldD, sAug, sAugS, dVar, dC, dOp, dI0, dII, dNeg, dInv, dAndV, dOrV, dNotV, dTst, dTru, dAnd, dOr, dNot, dIfE, dChn, dCall, dCallK, dMake, aNil, aCons, dTup, dLst, dLstH, dFldC, dCB, dBM, tgN, tgSub, iL, iT, iR1, iR2, DEnds.xx, dLc, dLcH, dYes, dSl, oNon, oSome, nI2, nTup, nLst, nLstH, mApp, wipeD, dIn, dIsN, dNotN, dAddH, dMulH, iS, iEnS, iZipD, iZip3D, dIsB, dJoin, dRgT, dRgL, dRgH, dDNew, dDNewT, sDPutD, tru_bl, tru_int, add_int, add_tup, mul_int, len_tup, len_lst, len_fz, ne_int, eq_int, ne_bl, eq_bl, int_int, int_bl, ty_end, asL_lst, asL_fz, asS_tup, asS_lst, asS_fz, tgs_cons_eq, tgs_nil_eq, tg_tup_eq, tg_lst_eq, at_end, set_end, asS_end, asL_end, at_pre, set_pre, ty_pre, dTupRev, asS_tup, asS_lst, rz_end, rz_lst, mulT_tup, min3_eq, List.getElem?_cons_zero, List.getElem?_cons_succ, Option.some.injEq, exists_eq_left', exists_eq_left, exists_and_left, exists_and_right, and_assoc, D.int.injEq, D.bl.injEq, D.str.injEq, D.tup.injEq, D.lst.injEq, D.fz.injEq, D.ref.injEq, HB.lst.injEq, List.cons.injEq, and_true, true_and, List.set_cons_zero, List.set_cons_succ, List.map_cons, List.map_nil, List.length_cons, List.length_nil, Nat.reduceAdd, Nat.reduceSub, Nat.sub_self, Nat.zero_add, List.replicate_zero, List.replicate_succ, List.append_nil, List.cons_append, List.nil_append, decide_eq_true_eq, decide_eq_false_iff_not, Bool.not_eq_true', Bool.not_eq_false', Bool.true_eq_false, Bool.false_eq_true, false_implies, forall_const, true_implies, reduceCtorEq, and_false, false_and, Bool.not_true, Bool.not_false, if_true, if_false, isT_00, isT_01, isT_02, isT_03, isT_04, plB_0, isT_10, isT_11, isT_12, isT_13, isT_14, plB_1, isT_20, isT_21, isT_22, isT_23, isT_24, plB_2, isT_30, isT_31, isT_32, isT_33, isT_34, plB_3, isT_40, isT_41, isT_42, isT_43, isT_44, plB_4, isT_50, isT_51, isT_52, isT_53, isT_54, plB_5, isT_60, isT_61, isT_62, isT_63, isT_64, plB_6, plB_0, plB_1, plB_2, plB_3, plB_4, plB_5, plB_6, isi_00, isi_01, isi_02, isi_03, isi_04, isi_lt_0, isi_tl_0, isi_10, isi_11, isi_12, isi_13, isi_14, isi_lt_1, isi_tl_1, isi_20, isi_21, isi_22, isi_23, isi_24, isi_lt_2, isi_tl_2, isi_30, isi_31, isi_32, isi_33, isi_34, isi_lt_3, isi_tl_3, isi_40, isi_41, isi_42, isi_43, isi_44, isi_lt_4, isi_tl_4, isi_50, isi_51, isi_52, isi_53, isi_54, isi_lt_5, isi_tl_5, isi_60, isi_61, isi_62, isi_63, isi_64, isi_lt_6, isi_tl_6, isN_0, isN_1, isN_2, isN_3, isN_4, isN_5, isN_6, sizeLine_eq, Nat.reduceLeDiff, Nat.reduceLT, Nat.le_refl, Nat.zero_le, lf]
      refine ⟨fun _ => fin (by omega) (by omega), fun hk1 => ⟨fun _ => fin (by omega) (by omega), fun hk2 => ⟨rgOk (by omega), ?_⟩⟩⟩
      rw [Int.toNat_natCast]
      generalize hns : cloF row k = ns at *
      have hkn : k < ns.length := by omega
      have hn40 : ns.length ≤ 40 := by omega
      have enext : cloF row (k + 1) = stepC ns k := by
        show (if k < (cloF row k).length ∧ (cloF row k).length ≤ 40 then stepC (cloF row k) k else cloF row k) = _
        rw [hns, if_pos ⟨hkn, hn40⟩]
      refine forW_inv (rgD 0 k) (fun i σ h' => ∃ l o4 o6 o7, (∀ m : Nat, hasDK l (m : Int) = decide (m ∈ cur ns k i 0)) ∧ l.length ≤ (cur ns k i 0).length ∧ h' = h ++ [.lst (nats (cur ns k i 0)), .dk l] ∧ σ = [some (.lst (nats row)), some (.int 40), some (.ref h.length), some (.ref (h.length + 1)), o4, some (.int k), o6, o7]) ⟨l, _, _, _, hm, hl, rfl, rfl⟩ (fun _ _ _ _ _ => trivial) ?_ ?_
      · rintro i x σ h' N hx ⟨l, o4, o6, o7, hm, hl, rfl, rfl⟩ hN
        obtain ⟨rfl, hi⟩ := rg_get hx
        simp only [sSeq, sNil, sIf, sRet, sRetN, sSet, sAsg, sExpr, sNever, sFor, sNox, sBrk, sCont, sFldD, sAug, sAugS, dVar, dC, dOp, dI0, dII, dNeg, dInv, dAndV, dOrV, dNotV, dTst, dTru, dAnd, dOr, dNot, dIfE, dChn, dCall, dCallK, dMake, aNil, aCons, dTup, dLst, dLstH, dFldC, dCB, dBM, tgN, tgSub, iL, iT, iR1, iR2, DEnds.xx, dLc, dLcH, dYes, dSl, oNon, oSome, nI2, nTup, nLst, nLstH, mApp, wipeD, dIn, dIsN, dNotN, dAddH, dMulH, iS, iEnS, iZipD, iZip3D, dIsB, dJoin, dRgT, dRgL, dRgH, dDNew, dDNewT, sDPutD, tru_bl, tru_int, add_int, add_tup, mul_int, len_tup, len_lst, len_fz, ne_int, eq_int, ne_bl, eq_bl, int_int, int_bl, ty_end, asL_lst, asL_fz, asS_tup, asS_lst, asS_fz, tgs_cons_eq, tgs_nil_eq, tg_tup_eq, tg_lst_eq, at_end, set_end, asS_end, asL_end, at_pre, set_pre, ty_pre, dTupRev, asS_tup, asS_lst, rz_end, rz_lst, mulT_tup, min3_eq, List.getElem?_cons_zero, List.getElem?_cons_succ, Option.some.injEq, exists_eq_left', exists_eq_left, exists_and_left, exists_and_right, and_assoc, D.int.injEq, D.bl.injEq, D.str.injEq, D.tup.injEq, D.lst.injEq, D.fz.injEq, D.ref.injEq, HB.lst.injEq, List.cons.injEq, and_true, true_and, List.set_cons_zero, List.set_cons_succ, List.map_cons, List.map_nil, List.length_cons, List.length_nil, Nat.reduceAdd, Nat.reduceSub, Nat.sub_self, Nat.zero_add, List.replicate_zero, List.replicate_succ, List.append_nil, List.cons_append, List.nil_append, decide_eq_true_eq, decide_eq_false_iff_not, Bool.not_eq_true', Bool.not_eq_false', Bool.true_eq_false, Bool.false_eq_true, false_implies, forall_const, true_implies, reduceCtorEq, and_false, false_and, Bool.not_true, Bool.not_false, if_true, if_false, isT_00, isT_01, isT_02, isT_03, isT_04, plB_0, isT_10, isT_11, isT_12, isT_13, isT_14, plB_1, isT_20, isT_21, isT_22, isT_23, isT_24, plB_2, isT_30, isT_31, isT_32, isT_33, isT_34, plB_3, isT_40, isT_41, isT_42, isT_43, isT_44, plB_4, isT_50, isT_51, isT_52, isT_53, isT_54, plB_5, isT_60, isT_61, isT_62, isT_63, isT_64, plB_6, plB_0, plB_1, plB_2, plB_3, plB_4, plB_5, plB_6, isi_00, isi_01, isi_02, isi_03, isi_04, isi_lt_0, isi_tl_0, isi_10, isi_11, isi_12, isi_13, isi_14, isi_lt_1, isi_tl_1, isi_20, isi_21, isi_22, isi_23, isi_24, isi_lt_2, isi_tl_2, isi_30, isi_31, isi_32, isi_33, isi_34, isi_lt_3, isi_tl_3, isi_40, isi_41, isi_42, isi_43, isi_44, isi_lt_4, isi_tl_4, isi_50, isi_51, isi_52, isi_53, isi_54, isi_lt_5, isi_tl_5, isi_60, isi_61, isi_62, isi_63, isi_64, isi_lt_6, isi_tl_6, isN_0, isN_1, isN_2, isN_3, isN_4, isN_5, isN_6, sizeLine_eq, Nat.reduceLeDiff, Nat.reduceLT, Nat.le_refl, Nat.zero_le]
        refine ⟨rgOk (by omega), ?_⟩
        rw [Int.toNat_natCast]
        refine forW_inv (rgD 0 i) (fun j σ h' => ∃ l o4 o7, (∀ m : Nat, hasDK l (m : Int) = decide (m ∈ cur ns k i j)) ∧ l.length ≤ (cur ns k i j).length ∧ h' = h ++ [.lst (nats (cur ns k i j)), .dk l] ∧ σ = [some (.lst (nats row)), some (.int 40), some (.ref h.length), some (.ref (h.length + 1)), o4, some (.int k), some (.int i), o7]) ⟨l, _, _, hm, hl, rfl, rfl⟩ (fun _ _ _ _ _ => trivial) ?_ ?_
        · rintro j x σ h' N2 hx ⟨l, o4, o7, hm, hl, rfl, rfl⟩ hN2
          obtain ⟨rfl, hj⟩ := rg_get hx
          have pre : ns <+: cur ns k i j := fold_pre _
          have cl := cur_len (k := k) hn40 i j (by omega) (by omega)
          have ln := pre.length_le
          have ef : asS (h ++ [.lst (nats (cur ns k i j)), .dk l]) (.ref h.length) = some (nats (cur ns k i j)) := asS_ref at1
          have gt : ∀ {t : Nat}, t < ns.length → atI (nats (cur ns k i j)) (t : Int) = some (.int (ns.getD t 0 : Nat)) := fun {t} ht => by rw [get_nat (by omega), pre_getD pre ht]
          simp only [sSeq, sNil, sIf, sRet, sRetN, sSet, sAsg, sExpr, sNever, sFor, sNox, sBrk, sCont, sFldD, sAug, sAugS, dVar, dC, dOp, dI0, dII, dNeg, dInv, dAndV, dOrV, dNotV, dTst, dTru, dAnd, dOr, dNot, dIfE, dChn, dCall, dCallK, dMake, aNil, aCons, dTup, dLst, dLstH, dFldC, dCB, dBM, tgN, tgSub, iL, iT, iR1, iR2, DEnds.xx, dLc, dLcH, dYes, dSl, oNon, oSome, nI2, nTup, nLst, nLstH, mApp, wipeD, dIn, dIsN, dNotN, dAddH, dMulH, iS, iEnS, iZipD, iZip3D, dIsB, dJoin, dRgT, dRgL, dRgH, dDNew, dDNewT, sDPutD, tru_bl, tru_int, add_int, add_tup, mul_int, len_tup, len_lst, len_fz, ne_int, eq_int, ne_bl, eq_bl, int_int, int_bl, ty_end, asL_lst, asL_fz, asS_tup, asS_lst, asS_fz, tgs_cons_eq, tgs_nil_eq, tg_tup_eq, tg_lst_eq, at_end, set_end, asS_end, asL_end, at_pre, set_pre, ty_pre, dTupRev, asS_tup, asS_lst, rz_end, rz_lst, mulT_tup, min3_eq, List.getElem?_cons_zero, List.getElem?_cons_succ, Option.some.injEq, exists_eq_left', exists_eq_left, exists_and_left, exists_and_right, and_assoc, D.int.injEq, D.bl.injEq, D.str.injEq, D.tup.injEq, D.lst.injEq, D.fz.injEq, D.ref.injEq, HB.lst.injEq, List.cons.injEq, and_true, true_and, List.set_cons_zero, List.set_cons_succ, List.map_cons, List.map_nil, List.length_cons, List.length_nil, Nat.reduceAdd, Nat.reduceSub, Nat.sub_self, Nat.zero_add, List.replicate_zero, List.replicate_succ, List.append_nil, List.cons_append, List.nil_append, decide_eq_true_eq, decide_eq_false_iff_not, Bool.not_eq_true', Bool.not_eq_false', Bool.true_eq_false, Bool.false_eq_true, false_implies, forall_const, true_implies, reduceCtorEq, and_false, false_and, Bool.not_true, Bool.not_false, if_true, if_false, isT_00, isT_01, isT_02, isT_03, isT_04, plB_0, isT_10, isT_11, isT_12, isT_13, isT_14, plB_1, isT_20, isT_21, isT_22, isT_23, isT_24, plB_2, isT_30, isT_31, isT_32, isT_33, isT_34, plB_3, isT_40, isT_41, isT_42, isT_43, isT_44, plB_4, isT_50, isT_51, isT_52, isT_53, isT_54, plB_5, isT_60, isT_61, isT_62, isT_63, isT_64, plB_6, plB_0, plB_1, plB_2, plB_3, plB_4, plB_5, plB_6, isi_00, isi_01, isi_02, isi_03, isi_04, isi_lt_0, isi_tl_0, isi_10, isi_11, isi_12, isi_13, isi_14, isi_lt_1, isi_tl_1, isi_20, isi_21, isi_22, isi_23, isi_24, isi_lt_2, isi_tl_2, isi_30, isi_31, isi_32, isi_33, isi_34, isi_lt_3, isi_tl_3, isi_40, isi_41, isi_42, isi_43, isi_44, isi_lt_4, isi_tl_4, isi_50, isi_51, isi_52, isi_53, isi_54, isi_lt_5, isi_tl_5, isi_60, isi_61, isi_62, isi_63, isi_64, isi_lt_6, isi_tl_6, isN_0, isN_1, isN_2, isN_3, isN_4, isN_5, isN_6, sizeLine_eq, Nat.reduceLeDiff, Nat.reduceLT, Nat.le_refl, Nat.zero_le, ix_eq ef (gt (t := i) (by omega)), ix_eq ef (gt (t := j) (by omega)), ix_eq ef (gt (t := k) (by omega)), ct__law_majority]
          refine ⟨ns.getD i 0, rfl, ns.getD j 0, rfl, ns.getD k 0, rfl, ?_⟩
          have em : mj (ns.getD i 0) (ns.getD j 0) (ns.getD k 0) = mjAt ns j i k := mj_com _ _ _
          have ej : cur ns k i (j + 1) = addN (cur ns k i j) (mjAt ns j i k) := cur_j
          rw [em]
          generalize mjAt ns j i k = m at ej ⊢
          simp only [sSeq, sNil, sIf, sRet, sRetN, sSet, sAsg, sExpr, sNever, sFor, sNox, sBrk, sCont, sFldD, sAug, sAugS, dVar, dC, dOp, dI0, dII, dNeg, dInv, dAndV, dOrV, dNotV, dTst, dTru, dAnd, dOr, dNot, dIfE, dChn, dCall, dCallK, dMake, aNil, aCons, dTup, dLst, dLstH, dFldC, dCB, dBM, tgN, tgSub, iL, iT, iR1, iR2, DEnds.xx, dLc, dLcH, dYes, dSl, oNon, oSome, nI2, nTup, nLst, nLstH, mApp, wipeD, dIn, dIsN, dNotN, dAddH, dMulH, iS, iEnS, iZipD, iZip3D, dIsB, dJoin, dRgT, dRgL, dRgH, dDNew, dDNewT, sDPutD, tru_bl, tru_int, add_int, add_tup, mul_int, len_tup, len_lst, len_fz, ne_int, eq_int, ne_bl, eq_bl, int_int, int_bl, ty_end, asL_lst, asL_fz, asS_tup, asS_lst, asS_fz, tgs_cons_eq, tgs_nil_eq, tg_tup_eq, tg_lst_eq, at_end, set_end, asS_end, asL_end, at_pre, set_pre, ty_pre, dTupRev, asS_tup, asS_lst, rz_end, rz_lst, mulT_tup, min3_eq, List.getElem?_cons_zero, List.getElem?_cons_succ, Option.some.injEq, exists_eq_left', exists_eq_left, exists_and_left, exists_and_right, and_assoc, D.int.injEq, D.bl.injEq, D.str.injEq, D.tup.injEq, D.lst.injEq, D.fz.injEq, D.ref.injEq, HB.lst.injEq, List.cons.injEq, and_true, true_and, List.set_cons_zero, List.set_cons_succ, List.map_cons, List.map_nil, List.length_cons, List.length_nil, Nat.reduceAdd, Nat.reduceSub, Nat.sub_self, Nat.zero_add, List.replicate_zero, List.replicate_succ, List.append_nil, List.cons_append, List.nil_append, decide_eq_true_eq, decide_eq_false_iff_not, Bool.not_eq_true', Bool.not_eq_false', Bool.true_eq_false, Bool.false_eq_true, false_implies, forall_const, true_implies, reduceCtorEq, and_false, false_and, Bool.not_true, Bool.not_false, if_true, if_false, isT_00, isT_01, isT_02, isT_03, isT_04, plB_0, isT_10, isT_11, isT_12, isT_13, isT_14, plB_1, isT_20, isT_21, isT_22, isT_23, isT_24, plB_2, isT_30, isT_31, isT_32, isT_33, isT_34, plB_3, isT_40, isT_41, isT_42, isT_43, isT_44, plB_4, isT_50, isT_51, isT_52, isT_53, isT_54, plB_5, isT_60, isT_61, isT_62, isT_63, isT_64, plB_6, plB_0, plB_1, plB_2, plB_3, plB_4, plB_5, plB_6, isi_00, isi_01, isi_02, isi_03, isi_04, isi_lt_0, isi_tl_0, isi_10, isi_11, isi_12, isi_13, isi_14, isi_lt_1, isi_tl_1, isi_20, isi_21, isi_22, isi_23, isi_24, isi_lt_2, isi_tl_2, isi_30, isi_31, isi_32, isi_33, isi_34, isi_lt_3, isi_tl_3, isi_40, isi_41, isi_42, isi_43, isi_44, isi_lt_4, isi_tl_4, isi_50, isi_51, isi_52, isi_53, isi_54, isi_lt_5, isi_tl_5, isi_60, isi_61, isi_62, isi_63, isi_64, isi_lt_6, isi_tl_6, isN_0, isN_1, isN_2, isN_3, isN_4, isN_5, isN_6, sizeLine_eq, Nat.reduceLeDiff, Nat.reduceLT, Nat.le_refl, Nat.zero_le, in_dk at2, hm, put_dk at2, set2, at1, set1, nats_len]
          refine ⟨fun hno => ?_, fun hyes => ?_⟩
          · have ea : addN (cur ns k i j) m = cur ns k i j ++ [m] := if_neg (by simpa using hno)
            refine ⟨by omega, .inl ⟨rfl, _, asL_ref at1⟩, by omega, hN2 _ _ ⟨_, _, _, fun x => ?_, ?_, by rw [ej, ea, nats_app]; rfl, rfl⟩⟩
            · rw [ej, ea, has_set, hm, Bool.eq_iff_iff]
              simp
              exact or_congr Iff.rfl (by omega)
            · rw [ej, ea, List.length_append]
              exact Nat.le_trans set_len (by simp only [List.length_singleton]; omega)
          · have ea : addN (cur ns k i j) m = cur ns k i j := if_pos (by simpa using hyes)
            exact hN2 _ _ ⟨l, _, _, fun x => by rw [ej, ea]; exact hm x, by rw [ej, ea]; exact hl, by rw [ej, ea], rfl⟩
        · rintro σ h' ⟨l, o4, o7, hm, hl, rfl, rfl⟩
          rw [rg_len, ← cur_i] at hm hl
          rw [rg_len, ← cur_i]
          exact hN _ _ ⟨l, _, _, _, hm, hl, rfl, rfl⟩
      · rintro σ h' ⟨l, o4, o6, o7, hm, hl, rfl, rfl⟩
        have cl := cur_len (k := k) hn40 k 0 (by omega) (by omega)
        have pre : ns <+: cur ns k k 0 := fold_pre _
        have ln := pre.length_le
        rw [rg_len] at hm hl
        rw [rg_len]
        rw [cur_k, ← enext] at hm hl cl ln
        rw [cur_k, ← enext]
        exact hN _ _ ⟨l, _, _, _, _, hm, hl, by omega, by omega, rfl, rfl⟩
    · rintro σ h' ⟨l, o4, o5, o6, o7, hm, hl, h1, h2, rfl, rfl⟩
      simp only [sSeq, sNil, sIf, sRet, sRetN, sSet, sAsg, sExpr, sNever, sFor, sNox, sBrk, sCont, sFldD, sAug, sAugS, dVar, dC, dOp, dI0, dII, dNeg, dInv, dAndV, dOrV, dNotV, dTst, dTru, dAnd, dOr, dNot, dIfE, dChn, dCall, dCallK, dMake, aNil, aCons, dTup, dLst, dLstH, dFldC, dCB, dBM, tgN, tgSub, iL, iT, iR1, iR2, DEnds.xx, dLc, dLcH, dYes, dSl, oNon, oSome, nI2, nTup, nLst, nLstH, mApp, wipeD, dIn, dIsN, dNotN, dAddH, dMulH, iS, iEnS, iZipD, iZip3D, dIsB, dJoin, dRgT, dRgL, dRgH, dDNew, dDNewT, sDPutD, tru_bl, tru_int, add_int, add_tup, mul_int, len_tup, len_lst, len_fz, ne_int, eq_int, ne_bl, eq_bl, int_int, int_bl, ty_end, asL_lst, asL_fz, asS_tup, asS_lst, asS_fz, tgs_cons_eq, tgs_nil_eq, tg_tup_eq, tg_lst_eq, at_end, set_end, asS_end, asL_end, at_pre, set_pre, ty_pre, dTupRev, asS_tup, asS_lst, rz_end, rz_lst, mulT_tup, min3_eq, List.getElem?_cons_zero, List.getElem?_cons_succ, Option.some.injEq, exists_eq_left', exists_eq_left, exists_and_left, exists_and_right, and_assoc, D.int.injEq, D.bl.injEq, D.str.injEq, D.tup.injEq, D.lst.injEq, D.fz.injEq, D.ref.injEq, HB.lst.injEq, List.cons.injEq, and_true, true_and, List.set_cons_zero, List.set_cons_succ, List.map_cons, List.map_nil, List.length_cons, List.length_nil, Nat.reduceAdd, Nat.reduceSub, Nat.sub_self, Nat.zero_add, List.replicate_zero, List.replicate_succ, List.append_nil, List.cons_append, List.nil_append, decide_eq_true_eq, decide_eq_false_iff_not, Bool.not_eq_true', Bool.not_eq_false', Bool.true_eq_false, Bool.false_eq_true, false_implies, forall_const, true_implies, reduceCtorEq, and_false, false_and, Bool.not_true, Bool.not_false, if_true, if_false, isT_00, isT_01, isT_02, isT_03, isT_04, plB_0, isT_10, isT_11, isT_12, isT_13, isT_14, plB_1, isT_20, isT_21, isT_22, isT_23, isT_24, plB_2, isT_30, isT_31, isT_32, isT_33, isT_34, plB_3, isT_40, isT_41, isT_42, isT_43, isT_44, plB_4, isT_50, isT_51, isT_52, isT_53, isT_54, plB_5, isT_60, isT_61, isT_62, isT_63, isT_64, plB_6, plB_0, plB_1, plB_2, plB_3, plB_4, plB_5, plB_6, isi_00, isi_01, isi_02, isi_03, isi_04, isi_lt_0, isi_tl_0, isi_10, isi_11, isi_12, isi_13, isi_14, isi_lt_1, isi_tl_1, isi_20, isi_21, isi_22, isi_23, isi_24, isi_lt_2, isi_tl_2, isi_30, isi_31, isi_32, isi_33, isi_34, isi_lt_3, isi_tl_3, isi_40, isi_41, isi_42, isi_43, isi_44, isi_lt_4, isi_tl_4, isi_50, isi_51, isi_52, isi_53, isi_54, isi_lt_5, isi_tl_5, isi_60, isi_61, isi_62, isi_63, isi_64, isi_lt_6, isi_tl_6, isN_0, isN_1, isN_2, isN_3, isN_4, isN_5, isN_6, sizeLine_eq, Nat.reduceLeDiff, Nat.reduceLT, Nat.le_refl, Nat.zero_le]
      exact fin (k := 41) (by decide) (by rw [rg_len] at h1; have : Int.toNat (40 + 1) = 41 := rfl; omega)
end L2.MW.K34

namespace L2.MW.K34
open PySem PySem.Spec PyProof.Rows L2 L2.MW
/-! ### the axes -/
def cor (W H i j k : Nat) : Nat := (2 ^ i - 1) + (2 ^ j - 1) * 2 ^ (W - 1) + (2 ^ k - 1) * 2 ^ (W + H - 2)
theorem pow_le {i W : Nat} (h : i < W) : 2 ^ i - 1 < 2 ^ (W - 1) := by
  have h1 := Nat.pow_le_pow_right (show 0 < 2 by decide) (show i ≤ W - 1 by omega)
  have h2 := Nat.two_pow_pos i
  omega
theorem pow_inj {i j : Nat} (h : 2 ^ i - 1 = 2 ^ j - 1) : i = j := by
  have h1 := Nat.two_pow_pos i
  have h2 := Nat.two_pow_pos j
  exact (Nat.pow_right_inj (a := 2) (by decide)).mp (by omega)
theorem parts_lt {a b p q : Nat} (ha : a < 2 ^ p) (hb : b < 2 ^ q) : a + b * 2 ^ p < 2 ^ (p + q) := by
  rw [Nat.pow_add]
  have h1 : (b + 1) * 2 ^ p ≤ 2 ^ q * 2 ^ p := Nat.mul_le_mul_right _ hb
  rw [Nat.add_mul, Nat.mul_comm (2 ^ q)] at h1
  omega
theorem parts_inj {a b c d p : Nat} (ha : a < 2 ^ p) (hc : c < 2 ^ p) (e : a + b * 2 ^ p = c + d * 2 ^ p) : a = c ∧ b = d := by
  have h1 : (a + b * 2 ^ p) % 2 ^ p = a := by rw [Nat.add_mul_mod_self_right, Nat.mod_eq_of_lt ha]
  have h2 : (c + d * 2 ^ p) % 2 ^ p = c := by rw [Nat.add_mul_mod_self_right, Nat.mod_eq_of_lt hc]
  have e1 : a = c := by rw [← h1, ← h2, e]
  refine ⟨e1, ?_⟩
  subst e1
  exact Nat.eq_of_mul_eq_mul_right (Nat.two_pow_pos p) (Nat.add_left_cancel e)
theorem cor_low {W H i j : Nat} (hi : i < W) (hj : j < H) : (2 ^ i - 1) + (2 ^ j - 1) * 2 ^ (W - 1) < 2 ^ (W + H - 2) := by
  have := parts_lt (pow_le hi) (pow_le hj)
  rwa [show W - 1 + (H - 1) = W + H - 2 from by omega] at this
theorem cor_lt {W H De i j k : Nat} (hi : i < W) (hj : j < H) (hk : k < De) : cor W H i j k < 2 ^ (W + H + De - 3) := by
  have := parts_lt (cor_low hi hj) (pow_le hk)
  rwa [show W + H - 2 + (De - 1) = W + H + De - 3 from by omega] at this
theorem cor_inj {W H i j k a b c : Nat} (hi : i < W) (hj : j < H) (ha : a < W) (hb : b < H) (e : cor W H i j k = cor W H a b c) : i = a ∧ j = b ∧ k = c := by
  obtain ⟨e1, e2⟩ := parts_inj (cor_low hi hj) (cor_low ha hb) e
  obtain ⟨e3, e4⟩ := parts_inj (pow_le hi) (pow_le ha) e1
  exact ⟨pow_inj e3, pow_inj e4, pow_inj e2⟩
theorem shl1 (j : Nat) : (1 : Int) * 2 ^ j - 1 = ((2 ^ j - 1 : Nat) : Int) := by
  have := Nat.two_pow_pos j
  rw [bShl]; omega
theorem shl2 (a j : Nat) : (a : Int) * 2 ^ j = ((a * 2 ^ j : Nat) : Int) := by push_cast; rfl
/-- the corners on the three axes -/
def axes (W H De : Nat) : List Nat := (List.range W).map (fun i => cor W H i 0 0) ++ (List.range (H - 1)).map (fun i => cor W H 0 (1 + i) 0) ++ (List.range (De - 1)).map fun i => cor W H 0 0 (1 + i)
theorem axes_nd {W H De : Nat} (hW : 0 < W) (hH : 0 < H) : (axes W H De).Nodup := by
  have inj : ∀ {n : Nat} {f : Nat → Nat}, (∀ a b, a < n → b < n → f a = f b → a = b) → ((List.range n).map f).Nodup := fun {n f} hf =>
    List.pairwise_map.mpr (List.nodup_range.imp_of_mem fun {a b} ha hb hne e => hne (hf a b (List.mem_range.mp ha) (List.mem_range.mp hb) e))
  unfold axes
  refine List.nodup_append.mpr ⟨List.nodup_append.mpr ⟨inj fun a b ha hb e => (cor_inj ha hH hb hH e).1, inj fun a b ha hb e => ?_, ?_⟩, inj fun a b ha hb e => ?_, ?_⟩
  · have := (cor_inj hW (show 1 + a < H by omega) hW (show 1 + b < H by omega) e).2.1
    omega
  · intro x hx y hy e
    obtain ⟨a, ha, rfl⟩ := List.mem_map.mp hx
    obtain ⟨b, hb, rfl⟩ := List.mem_map.mp hy
    have ha := List.mem_range.mp ha
    have hb := List.mem_range.mp hb
    have := (cor_inj ha hH hW (show 1 + b < H by omega) e).2.1
    omega
  · have := (cor_inj hW hH hW hH e).2.2
    omega
  · intro x hx y hy e
    obtain ⟨b, hb, rfl⟩ := List.mem_map.mp hy
    rcases List.mem_append.mp hx with hx | hx
    · obtain ⟨a, ha, rfl⟩ := List.mem_map.mp hx
      have := (cor_inj (List.mem_range.mp ha) hH hW hH e).2.2
      omega
    · obtain ⟨a, ha, rfl⟩ := List.mem_map.mp hx
      have ha := List.mem_range.mp ha
      have := (cor_inj hW (show 1 + a < H by omega) hW hH e).2.2
      omega
theorem axes_lt {W H De : Nat} (hW : 0 < W) (hH : 0 < H) (hD : 0 < De) : ∀ x ∈ axes W H De, x < 2 ^ (W + H + De - 3) := fun x hx => by
  unfold axes at hx
  rcases List.mem_append.mp hx with hx | hx
  · rcases List.mem_append.mp hx with hx | hx
    · obtain ⟨a, ha, rfl⟩ := List.mem_map.mp hx
      exact cor_lt (List.mem_range.mp ha) hH hD
    · obtain ⟨a, ha, rfl⟩ := List.mem_map.mp hx
      have ha := List.mem_range.mp ha
      exact cor_lt hW (by omega) hD
  · obtain ⟨a, ha, rfl⟩ := List.mem_map.mp hx
    have ha := List.mem_range.mp ha
    exact cor_lt hW hH (by omega)
theorem axes_len {W H De : Nat} : (axes W H De).length = W + (H - 1) + (De - 1) := by unfold axes; simp; omega
theorem axes_X1 {h : DHp} {X : DX} {Q : DK} {p : List Nat} {W H De p3 : Nat} (hW : 0 < W) (hH : 0 < H) (hD : 0 < De) (W8 : W ≤ 8) (H8 : H ≤ 8) (D3 : De ≤ 3) (g3 : atI (nats p) 3 = some (.int (p3 : Nat))) {o4 o5 o6 o7 o8 : Option D}
    (q : ∀ L row, L ≤ 39 → row.Nodup → (∀ x ∈ row, x < 2 ^ L) → row ≠ [] → row.length ≤ 40 → Q (.lst [.int (L : Nat), .lst (nats row)]) h) :
    tb__law_axes_X1 (endsD h X Q) [some (.lst (nats p)), some (.int W), some (.int H), some (.int De), o4, o5, o6, o7, o8] h := by
  have cp1 : ∀ n : Nat, n ≤ 100 → CPow 1 (n : Int) := fun n hn => ⟨by omega, by omega, by decide⟩
  have cp2 : ∀ j n : Nat, j ≤ 40 → n ≤ 100 → CPow ((2 ^ j - 1 : Nat) : Int) (n : Int) := fun j n hj hn => ⟨by omega, by omega, by
    rw [Int.natAbs_natCast]
    exact Nat.lt_of_le_of_lt (Nat.sub_le _ _) (Nat.lt_of_le_of_lt (Nat.pow_le_pow_right (by decide) hj) (by decide))⟩
  have cw : ∀ j : Int, CMul (W : Int) j := fun j => .inl ⟨by omega, by omega⟩
  have WH : W * H ≤ 64 := Nat.mul_le_mul W8 H8
  have cwh : ∀ j : Int, CMul ((W * H : Nat) : Int) j := fun j => .inl ⟨by omega, by omega⟩
  have em1 : (W : Int) * (H : Int) = ((W * H : Nat) : Int) := by rw [Int.natCast_mul]
  have em2 : ((W * H : Nat) : Int) * (De : Int) = ((W * H * De : Nat) : Int) := by rw [Int.natCast_mul (W * H) De]
  have eL : (W : Int) + (H : Int) + (De : Int) - 3 = ((W + H + De - 3 : Nat) : Int) := by omega
  have e39 : (39 : Int) - ((W + H + De - 3 : Nat) : Int) = ((39 - (W + H + De - 3) : Nat) : Int) := by omega
  simp only [tb__law_axes_X1, sSeq, sNil, sIf, sRet, sRetN, sSet, sAsg, sExpr, sNever, sFor, sNox, sBrk, sCont, sFldD, sAug, sAugS, dVar, dC, dOp, dI0, dII, dNeg, dInv, dAndV, dOrV, dNotV, dTst, dTru, dAnd, dOr, dNot, dIfE, dChn, dCall, dCallK, dMake, aNil, aCons, dTup, dLst, dLstH, dFldC, dCB, dBM, tgN, tgSub, iL, iT, iR1, iR2, DEnds.xx, dLc, dLcH, dYes, dSl, oNon, oSome, nI2, nTup, nLst, nLstH, mApp, wipeD, dIn, dIsN, dNotN, dAddH, dMulH, iS, iEnS, iZipD, iZip3D, dIsB, dJoin, dRgT, dRgL, dRgH, dDNew, dDNewT, sDPutD, tru_bl, tru_int, add_int, add_tup, mul_int, len_tup, len_lst, len_fz, ne_int, eq_int, ne_bl, eq_bl, int_int, int_bl, ty_end, asL_lst, asL_fz, asS_tup, asS_lst, asS_fz, tgs_cons_eq, tgs_nil_eq, tg_tup_eq, tg_lst_eq, at_end, set_end, asS_end, asL_end, at_pre, set_pre, ty_pre, dTupRev, asS_tup, asS_lst, rz_end, rz_lst, mulT_tup, min3_eq, List.getElem?_cons_zero, List.getElem?_cons_succ, Option.some.injEq, exists_eq_left', exists_eq_left, exists_and_left, exists_and_right, and_assoc, D.int.injEq, D.bl.injEq, D.str.injEq, D.tup.injEq, D.lst.injEq, D.fz.injEq, D.ref.injEq, HB.lst.injEq, List.cons.injEq, and_true, true_and, List.set_cons_zero, List.set_cons_succ, List.map_cons, List.map_nil, List.length_cons, List.length_nil, Nat.reduceAdd, Nat.reduceSub, Nat.sub_self, Nat.zero_add, List.replicate_zero, List.replicate_succ, List.append_nil, List.cons_append, List.nil_append, decide_eq_true_eq, decide_eq_false_iff_not, Bool.not_eq_true', Bool.not_eq_false', Bool.true_eq_false, Bool.false_eq_true, false_implies, forall_const, true_implies, reduceCtorEq, and_false, false_and, Bool.not_true, Bool.not_false, if_true, if_false, isT_00, isT_01, isT_02, isT_03, isT_04, plB_0, isT_10, isT_11, isT_12, isT_13, isT_14, plB_1, isT_20, isT_21, isT_22, isT_23, isT_24, plB_2, isT_30, isT_31, isT_32, isT_33, isT_34, plB_3, isT_40, isT_41, isT_42, isT_43, isT_44, plB_4, isT_50, isT_51, isT_52, isT_53, isT_54, plB_5, isT_60, isT_61, isT_62, isT_63, isT_64, plB_6, plB_0, plB_1, plB_2, plB_3, plB_4, plB_5, plB_6, isi_00, isi_01, isi_02, isi_03, isi_04, isi_lt_0, isi_tl_0, isi_10, isi_11, isi_12, isi_13, isi_14, isi_lt_1, isi_tl_1, isi_20, isi_21, isi_22, isi_23, isi_24, isi_lt_2, isi_tl_2, isi_30, isi_31, isi_32, isi_33, isi_34, isi_lt_3, isi_tl_3, isi_40, isi_41, isi_42, isi_43, isi_44, isi_lt_4, isi_tl_4, isi_50, isi_51, isi_52, isi_53, isi_54, isi_lt_5, isi_tl_5, isi_60, isi_61, isi_62, isi_63, isi_64, isi_lt_6, isi_tl_6, isN_0, isN_1, isN_2, isN_3, isN_4, isN_5, isN_6, sizeLine_eq, Nat.reduceLeDiff, Nat.reduceLT, Nat.le_refl, Nat.zero_le, ix_lst g3, em1, em2, eL, e39]
  generalize hx : (38 : Int) + (p3 : Int) % 6 - ((W * H * De : Nat) : Int) = x
  generalize hT : (if (if ((39 - (W + H + De - 3) : Nat) : Int) < x then ((39 - (W + H + De - 3) : Nat) : Int) else x) > 0 then (if ((39 - (W + H + De - 3) : Nat) : Int) < x then ((39 - (W + H + De - 3) : Nat) : Int) else x) else 0) = T
  obtain ⟨T, rfl⟩ : ∃ t : Nat, T = (t : Int) := ⟨T.toNat, by split at hT <;> split at hT <;> omega⟩
  have T1 : W + H + De - 3 + T ≤ 39 := by split at hT <;> split at hT <;> omega
  have gw : ∀ {k : Nat}, D.int (1 + (k : Int)) = D.int ((1 + k : Nat) : Int) := fun {k} => by congr 1
  have rg1 : ∀ {n : Nat}, n ≤ 100 → RgD 1 (n : Int) := fun {n} hn => ⟨by decide, by decide, by omega, by omega⟩
  refine ⟨by decide, cw _, cwh _, rgOk (by omega), ?_⟩
  rw [Int.toNat_natCast]
  refine lc_mapT (List.range W) (fun (k : Nat) => D.int (0 + (k : Int))) (fun (i : Nat) => D.int ((cor W H i 0 0 : Nat) : Int)) (fun _ => trivial) (by simp; omega) (fun k hk acc R hz hA => ?_) ?_
  · rw [List.length_range] at hk
    simp only [List.getElem_range, Int.zero_add] at hA ⊢
    have ec : ((2 ^ k - 1 : Nat) : Int) = ((cor W H k 0 0 : Nat) : Int) := by unfold cor; simp
    simp only [sSeq, sNil, sIf, sRet, sRetN, sSet, sAsg, sExpr, sNever, sFor, sNox, sBrk, sCont, sFldD, sAug, sAugS, dVar, dC, dOp, dI0, dII, dNeg, dInv, dAndV, dOrV, dNotV, dTst, dTru, dAnd, dOr, dNot, dIfE, dChn, dCall, dCallK, dMake, aNil, aCons, dTup, dLst, dLstH, dFldC, dCB, dBM, tgN, tgSub, iL, iT, iR1, iR2, DEnds.xx, dLc, dLcH, dYes, dSl, oNon, oSome, nI2, nTup, nLst, nLstH, mApp, wipeD, dIn, dIsN, dNotN, dAddH, dMulH, iS, iEnS, iZipD, iZip3D, dIsB, dJoin, dRgT, dRgL, dRgH, dDNew, dDNewT, sDPutD, tru_bl, tru_int, add_int, add_tup, mul_int, len_tup, len_lst, len_fz, ne_int, eq_int, ne_bl, eq_bl, int_int, int_bl, ty_end, asL_lst, asL_fz, asS_tup, asS_lst, asS_fz, tgs_cons_eq, tgs_nil_eq, tg_tup_eq, tg_lst_eq, at_end, set_end, asS_end, asL_end, at_pre, set_pre, ty_pre, dTupRev, asS_tup, asS_lst, rz_end, rz_lst, mulT_tup, min3_eq, List.getElem?_cons_zero, List.getElem?_cons_succ, Option.some.injEq, exists_eq_left', exists_eq_left, exists_and_left, exists_and_right, and_assoc, D.int.injEq, D.bl.injEq, D.str.injEq, D.tup.injEq, D.lst.injEq, D.fz.injEq, D.ref.injEq, HB.lst.injEq, List.cons.injEq, and_true, true_and, List.set_cons_zero, List.set_cons_succ, List.map_cons, List.map_nil, List.length_cons, List.length_nil, Nat.reduceAdd, Nat.reduceSub, Nat.sub_self, Nat.zero_add, List.replicate_zero, List.replicate_succ, List.append_nil, List.cons_append, List.nil_append, decide_eq_true_eq, decide_eq_false_iff_not, Bool.not_eq_true', Bool.not_eq_false', Bool.true_eq_false, Bool.false_eq_true, false_implies, forall_const, true_implies, reduceCtorEq, and_false, false_and, Bool.not_true, Bool.not_false, if_true, if_false, isT_00, isT_01, isT_02, isT_03, isT_04, plB_0, isT_10, isT_11, isT_12, isT_13, isT_14, plB_1, isT_20, isT_21, isT_22, isT_23, isT_24, plB_2, isT_30, isT_31, isT_32, isT_33, isT_34, plB_3, isT_40, isT_41, isT_42, isT_43, isT_44, plB_4, isT_50, isT_51, isT_52, isT_53, isT_54, plB_5, isT_60, isT_61, isT_62, isT_63, isT_64, plB_6, plB_0, plB_1, plB_2, plB_3, plB_4, plB_5, plB_6, isi_00, isi_01, isi_02, isi_03, isi_04, isi_lt_0, isi_tl_0, isi_10, isi_11, isi_12, isi_13, isi_14, isi_lt_1, isi_tl_1, isi_20, isi_21, isi_22, isi_23, isi_24, isi_lt_2, isi_tl_2, isi_30, isi_31, isi_32, isi_33, isi_34, isi_lt_3, isi_tl_3, isi_40, isi_41, isi_42, isi_43, isi_44, isi_lt_4, isi_tl_4, isi_50, isi_51, isi_52, isi_53, isi_54, isi_lt_5, isi_tl_5, isi_60, isi_61, isi_62, isi_63, isi_64, isi_lt_6, isi_tl_6, isN_0, isN_1, isN_2, isN_3, isN_4, isN_5, isN_6, sizeLine_eq, Nat.reduceLeDiff, Nat.reduceLT, Nat.le_refl, Nat.zero_le, Int.toNat_natCast, shl1, ec]
    exact ⟨cp1 _ (by omega), hz, hA⟩
  refine ⟨rg1 (by omega), ?_⟩
  have eH : ((H : Int) - 1).toNat = H - 1 := by omega
  have eD : ((De : Int) - 1).toNat = De - 1 := by omega
  rw [eH]
  refine lc_mapT (List.range (H - 1)) (fun (k : Nat) => D.int (1 + (k : Int))) (fun (i : Nat) => D.int ((cor W H 0 (1 + i) 0 : Nat) : Int)) (fun _ => trivial) (by simp; omega) (fun k hk acc R hz hA => ?_) ?_
  · rw [List.length_range] at hk
    simp only [List.getElem_range, gw] at hA ⊢
    have ew : (W : Int) - 1 = ((W - 1 : Nat) : Int) := by omega
    have ec : ((2 ^ (1 + k) - 1 : Nat) : Int) * 2 ^ (W - 1) = ((cor W H 0 (1 + k) 0 : Nat) : Int) := by rw [shl2]; unfold cor; simp
    simp only [sSeq, sNil, sIf, sRet, sRetN, sSet, sAsg, sExpr, sNever, sFor, sNox, sBrk, sCont, sFldD, sAug, sAugS, dVar, dC, dOp, dI0, dII, dNeg, dInv, dAndV, dOrV, dNotV, dTst, dTru, dAnd, dOr, dNot, dIfE, dChn, dCall, dCallK, dMake, aNil, aCons, dTup, dLst, dLstH, dFldC, dCB, dBM, tgN, tgSub, iL, iT, iR1, iR2, DEnds.xx, dLc, dLcH, dYes, dSl, oNon, oSome, nI2, nTup, nLst, nLstH, mApp, wipeD, dIn, dIsN, dNotN, dAddH, dMulH, iS, iEnS, iZipD, iZip3D, dIsB, dJoin, dRgT, dRgL, dRgH, dDNew, dDNewT, sDPutD, tru_bl, tru_int, add_int, add_tup, mul_int, len_tup, len_lst, len_fz, ne_int, eq_int, ne_bl, eq_bl, int_int, int_bl, ty_end, asL_lst, asL_fz, asS_tup, asS_lst, asS_fz, tgs_cons_eq, tgs_nil_eq, tg_tup_eq, tg_lst_eq, at_end, set_end, asS_end, asL_end, at_pre, set_pre, ty_pre, dTupRev, asS_tup, asS_lst, rz_end, rz_lst, mulT_tup, min3_eq, List.getElem?_cons_zero, List.getElem?_cons_succ, Option.some.injEq, exists_eq_left', exists_eq_left, exists_and_left, exists_and_right, and_assoc, D.int.injEq, D.bl.injEq, D.str.injEq, D.tup.injEq, D.lst.injEq, D.fz.injEq, D.ref.injEq, HB.lst.injEq, List.cons.injEq, and_true, true_and, List.set_cons_zero, List.set_cons_succ, List.map_cons, List.map_nil, List.length_cons, List.length_nil, Nat.reduceAdd, Nat.reduceSub, Nat.sub_self, Nat.zero_add, List.replicate_zero, List.replicate_succ, List.append_nil, List.cons_append, List.nil_append, decide_eq_true_eq, decide_eq_false_iff_not, Bool.not_eq_true', Bool.not_eq_false', Bool.true_eq_false, Bool.false_eq_true, false_implies, forall_const, true_implies, reduceCtorEq, and_false, false_and, Bool.not_true, Bool.not_false, if_true, if_false, isT_00, isT_01, isT_02, isT_03, isT_04, plB_0, isT_10, isT_11, isT_12, isT_13, isT_14, plB_1, isT_20, isT_21, isT_22, isT_23, isT_24, plB_2, isT_30, isT_31, isT_32, isT_33, isT_34, plB_3, isT_40, isT_41, isT_42, isT_43, isT_44, plB_4, isT_50, isT_51, isT_52, isT_53, isT_54, plB_5, isT_60, isT_61, isT_62, isT_63, isT_64, plB_6, plB_0, plB_1, plB_2, plB_3, plB_4, plB_5, plB_6, isi_00, isi_01, isi_02, isi_03, isi_04, isi_lt_0, isi_tl_0, isi_10, isi_11, isi_12, isi_13, isi_14, isi_lt_1, isi_tl_1, isi_20, isi_21, isi_22, isi_23, isi_24, isi_lt_2, isi_tl_2, isi_30, isi_31, isi_32, isi_33, isi_34, isi_lt_3, isi_tl_3, isi_40, isi_41, isi_42, isi_43, isi_44, isi_lt_4, isi_tl_4, isi_50, isi_51, isi_52, isi_53, isi_54, isi_lt_5, isi_tl_5, isi_60, isi_61, isi_62, isi_63, isi_64, isi_lt_6, isi_tl_6, isN_0, isN_1, isN_2, isN_3, isN_4, isN_5, isN_6, sizeLine_eq, Nat.reduceLeDiff, Nat.reduceLT, Nat.le_refl, Nat.zero_le, Int.toNat_natCast, shl1, ew, ec]
    exact ⟨cp1 _ (by omega), cp2 _ _ (by omega) (by omega), hz, hA⟩
  refine ⟨_, rfl, Bds_all' fun x hx => ?_, _, asX_ref at_end, _, rfl, ?_, rg1 (by omega), ?_⟩
  · obtain ⟨k, _, rfl⟩ := List.mem_map.mp hx
    trivial
  · simp; omega
  rw [eD]
  refine lc_mapT (List.range (De - 1)) (fun (k : Nat) => D.int (1 + (k : Int))) (fun (i : Nat) => D.int ((cor W H 0 0 (1 + i) : Nat) : Int)) (fun _ => trivial) (by simp; omega) (fun k hk acc R hz hA => ?_) ?_
  · rw [List.length_range] at hk
    simp only [List.getElem_range, gw] at hA ⊢
    have ew : (W : Int) + (H : Int) - 2 = ((W + H - 2 : Nat) : Int) := by omega
    have ec : ((2 ^ (1 + k) - 1 : Nat) : Int) * 2 ^ (W + H - 2) = ((cor W H 0 0 (1 + k) : Nat) : Int) := by rw [shl2]; unfold cor; simp
    simp only [sSeq, sNil, sIf, sRet, sRetN, sSet, sAsg, sExpr, sNever, sFor, sNox, sBrk, sCont, sFldD, sAug, sAugS, dVar, dC, dOp, dI0, dII, dNeg, dInv, dAndV, dOrV, dNotV, dTst, dTru, dAnd, dOr, dNot, dIfE, dChn, dCall, dCallK, dMake, aNil, aCons, dTup, dLst, dLstH, dFldC, dCB, dBM, tgN, tgSub, iL, iT, iR1, iR2, DEnds.xx, dLc, dLcH, dYes, dSl, oNon, oSome, nI2, nTup, nLst, nLstH, mApp, wipeD, dIn, dIsN, dNotN, dAddH, dMulH, iS, iEnS, iZipD, iZip3D, dIsB, dJoin, dRgT, dRgL, dRgH, dDNew, dDNewT, sDPutD, tru_bl, tru_int, add_int, add_tup, mul_int, len_tup, len_lst, len_fz, ne_int, eq_int, ne_bl, eq_bl, int_int, int_bl, ty_end, asL_lst, asL_fz, asS_tup, asS_lst, asS_fz, tgs_cons_eq, tgs_nil_eq, tg_tup_eq, tg_lst_eq, at_end, set_end, asS_end, asL_end, at_pre, set_pre, ty_pre, dTupRev, asS_tup, asS_lst, rz_end, rz_lst, mulT_tup, min3_eq, List.getElem?_cons_zero, List.getElem?_cons_succ, Option.some.injEq, exists_eq_left', exists_eq_left, exists_and_left, exists_and_right, and_assoc, D.int.injEq, D.bl.injEq, D.str.injEq, D.tup.injEq, D.lst.injEq, D.fz.injEq, D.ref.injEq, HB.lst.injEq, List.cons.injEq, and_true, true_and, List.set_cons_zero, List.set_cons_succ, List.map_cons, List.map_nil, List.length_cons, List.length_nil, Nat.reduceAdd, Nat.reduceSub, Nat.sub_self, Nat.zero_add, List.replicate_zero, List.replicate_succ, List.append_nil, List.cons_append, List.nil_append, decide_eq_true_eq, decide_eq_false_iff_not, Bool.not_eq_true', Bool.not_eq_false', Bool.true_eq_false, Bool.false_eq_true, false_implies, forall_const, true_implies, reduceCtorEq, and_false, false_and, Bool.not_true, Bool.not_false, if_true, if_false, isT_00, isT_01, isT_02, isT_03, isT_04, plB_0, isT_10, isT_11, isT_12, isT_13, isT_14, plB_1, isT_20, isT_21, isT_22, isT_23, isT_24, plB_2, isT_30, isT_31, isT_32, isT_33, isT_34, plB_3, isT_40, isT_41, isT_42, isT_43, isT_44, plB_4, isT_50, isT_51, isT_52, isT_53, isT_54, plB_5, isT_60, isT_61, isT_62, isT_63, isT_64, plB_6, plB_0, plB_1, plB_2, plB_3, plB_4, plB_5, plB_6, isi_00, isi_01, isi_02, isi_03, isi_04, isi_lt_0, isi_tl_0, isi_10, isi_11, isi_12, isi_13, isi_14, isi_lt_1, isi_tl_1, isi_20, isi_21, isi_22, isi_23, isi_24, isi_lt_2, isi_tl_2, isi_30, isi_31, isi_32, isi_33, isi_34, isi_lt_3, isi_tl_3, isi_40, isi_41, isi_42, isi_43, isi_44, isi_lt_4, isi_tl_4, isi_50, isi_51, isi_52, isi_53, isi_54, isi_lt_5, isi_tl_5, isi_60, isi_61, isi_62, isi_63, isi_64, isi_lt_6, isi_tl_6, isN_0, isN_1, isN_2, isN_3, isN_4, isN_5, isN_6, sizeLine_eq, Nat.reduceLeDiff, Nat.reduceLT, Nat.le_refl, Nat.zero_le, Int.toNat_natCast, shl1, ew, ec]
    exact ⟨cp1 _ (by omega), cp2 _ _ (by omega) (by omega), hz, hA⟩
  refine ⟨_, rfl, Bds_all' fun x hx => ?_, _, asX_ref at_end, _, rfl, ?_, ?_, ?_⟩
  · obtain ⟨k, _, rfl⟩ := List.mem_map.mp hx
    trivial
  · simp; omega
  · exact rgOk (n := T + 1) (by omega)
  have eA : (List.range W).map (fun (i : Nat) => D.int ((cor W H i 0 0 : Nat) : Int)) ++ (List.range (H - 1)).map (fun (i : Nat) => D.int ((cor W H 0 (1 + i) 0 : Nat) : Int)) ++ (List.range (De - 1)).map (fun (i : Nat) => D.int ((cor W H 0 0 (1 + i) : Nat) : Int)) = nats (axes W H De) := by
    unfold nats axes
    rw [List.map_append, List.map_append, List.map_map, List.map_map, List.map_map]; rfl
  rw [eA]
  have eT : ((T : Int) + 1).toNat = T + 1 := by omega
  rw [eT]
  generalize hg0 : (h ++ [HB.lst ((List.range W).map fun (i : Nat) => D.int ((cor W H i 0 0 : Nat) : Int))]) = g1
  generalize hg : g1 ++ [HB.lst _] = g
  have lg : ∃ t, g = h ++ t := ⟨_, by rw [← hg, ← hg0, List.append_assoc]⟩
  have low : ∀ x ∈ axes W H De, x < 2 ^ (W + H + De - 3 + T) := fun x hx => Nat.lt_of_lt_of_le (axes_lt hW hH hD x hx) (Nat.pow_le_pow_right (by decide) (Nat.le_add_right _ _))
  have an : (axes W H De).length ≤ 17 := by rw [axes_len]; omega
  have ane : axes W H De ≠ [] := fun e => by
    have := axes_len (W := W) (H := H) (De := De)
    rw [e] at this; simp at this; omega
  refine forW_inv (rgD 0 (T + 1)) (fun i σ h' => ∃ row o8, row.Nodup ∧ (∀ x ∈ row, x < 2 ^ (W + H + De - 3 + T)) ∧ row ≠ [] ∧ row.length ≤ 17 + i ∧ h' = g ++ [.lst (nats row)] ∧ σ = [some (.lst (nats p)), some (.int W), some (.int H), some (.int De), some (.int (W + H + De - 3 : Nat)), some (.int T), some (.ref g.length), o7, o8]) ⟨axes W H De, _, axes_nd hW hH, low, ane, by omega, rfl, rfl⟩ (fun _ _ _ _ _ => trivial) ?_ ?_
  · rintro i x σ h' N hx ⟨row, o8, nd, lt, ne, len, rfl, rfl⟩ hN
    obtain ⟨rfl, hi⟩ := rg_get hx
    have e1 : ((W + H + De - 3 : Nat) : Int) + (i : Int) = ((W + H + De - 3 + i : Nat) : Int) := by omega
    simp only [sSeq, sNil, sIf, sRet, sRetN, sSet, sAsg, sExpr, sNever, sFor, sNox, sBrk, sCont, sFldD, sAug, sAugS, dVar, dC, dOp, dI0, dII, dNeg, dInv, dAndV, dOrV, dNotV, dTst, dTru, dAnd, dOr, dNot, dIfE, dChn, dCall, dCallK, dMake, aNil, aCons, dTup, dLst, dLstH, dFldC, dCB, dBM, tgN, tgSub, iL, iT, iR1, iR2, DEnds.xx, dLc, dLcH, dYes, dSl, oNon, oSome, nI2, nTup, nLst, nLstH, mApp, wipeD, dIn, dIsN, dNotN, dAddH, dMulH, iS, iEnS, iZipD, iZip3D, dIsB, dJoin, dRgT, dRgL, dRgH, dDNew, dDNewT, sDPutD, tru_bl, tru_int, add_int, add_tup, mul_int, len_tup, len_lst, len_fz, ne_int, eq_int, ne_bl, eq_bl, int_int, int_bl, ty_end, asL_lst, asL_fz, asS_tup, asS_lst, asS_fz, tgs_cons_eq, tgs_nil_eq, tg_tup_eq, tg_lst_eq, at_end, set_end, asS_end, asL_end, at_pre, set_pre, ty_pre, dTupRev, asS_tup, asS_lst, rz_end, rz_lst, mulT_tup, min3_eq, List.getElem?_cons_zero, List.getElem?_cons_succ, Option.some.injEq, exists_eq_left', exists_eq_left, exists_and_left, exists_and_right, and_assoc, D.int.injEq, D.bl.injEq, D.str.injEq, D.tup.injEq, D.lst.injEq, D.fz.injEq, D.ref.injEq, HB.lst.injEq, List.cons.injEq, and_true, true_and, List.set_cons_zero, List.set_cons_succ, List.map_cons, List.map_nil, List.length_cons, List.length_nil, Nat.reduceAdd, Nat.reduceSub, Nat.sub_self, Nat.zero_add, List.replicate_zero, List.replicate_succ, List.append_nil, List.cons_append, List.nil_append, decide_eq_true_eq, decide_eq_false_iff_not, Bool.not_eq_true', Bool.not_eq_false', Bool.true_eq_false, Bool.false_eq_true, false_implies, forall_const, true_implies, reduceCtorEq, and_false, false_and, Bool.not_true, Bool.not_false, if_true, if_false, isT_00, isT_01, isT_02, isT_03, isT_04, plB_0, isT_10, isT_11, isT_12, isT_13, isT_14, plB_1, isT_20, isT_21, isT_22, isT_23, isT_24, plB_2, isT_30, isT_31, isT_32, isT_33, isT_34, plB_3, isT_40, isT_41, isT_42, isT_43, isT_44, plB_4, isT_50, isT_51, isT_52, isT_53, isT_54, plB_5, isT_60, isT_61, isT_62, isT_63, isT_64, plB_6, plB_0, plB_1, plB_2, plB_3, plB_4, plB_5, plB_6, isi_00, isi_01, isi_02, isi_03, isi_04, isi_lt_0, isi_tl_0, isi_10, isi_11, isi_12, isi_13, isi_14, isi_lt_1, isi_tl_1, isi_20, isi_21, isi_22, isi_23, isi_24, isi_lt_2, isi_tl_2, isi_30, isi_31, isi_32, isi_33, isi_34, isi_lt_3, isi_tl_3, isi_40, isi_41, isi_42, isi_43, isi_44, isi_lt_4, isi_tl_4, isi_50, isi_51, isi_52, isi_53, isi_54, isi_lt_5, isi_tl_5, isi_60, isi_61, isi_62, isi_63, isi_64, isi_lt_6, isi_tl_6, isN_0, isN_1, isN_2, isN_3, isN_4, isN_5, isN_6, sizeLine_eq, Nat.reduceLeDiff, Nat.reduceLT, Nat.le_refl, Nat.zero_le, e1, Int.toNat_natCast, shl1, nat_any, nats_len]
    have lt1 : 2 ^ (W + H + De - 3 + i) - 1 < 2 ^ (W + H + De - 3 + T) := by
      have h1 := Nat.pow_le_pow_right (show 0 < 2 by decide) (show W + H + De - 3 + i ≤ W + H + De - 3 + T by omega)
      have h2 := Nat.two_pow_pos (W + H + De - 3 + i)
      omega
    refine ⟨cp1 _ (by omega), trivial, nats_ok, fun z => ⟨cp1 _ (by omega), by omega, hN _ _ ⟨row ++ [2 ^ (W + H + De - 3 + i) - 1], _, ?_, fun x hx => ?_, by simp, by rw [List.length_append]; simp only [List.length_singleton]; omega, by rw [nats_app]; rfl, rfl⟩⟩, fun z => hN _ _ ⟨row, _, nd, lt, ne, by omega, rfl, rfl⟩⟩
    · exact List.nodup_append.mpr ⟨nd, List.nodup_cons.mpr ⟨nofun, List.nodup_nil⟩, fun y hy w hw e => by
        rw [List.mem_singleton.mp hw] at e
        rw [← e] at z
        simp [hy] at z⟩
    · rcases List.mem_append.mp hx with hx | hx
      · exact lt x hx
      · rw [List.mem_singleton.mp hx]; exact lt1
  · rintro σ h' ⟨row, o8, nd, lt, ne, len, rfl, rfl⟩
    obtain ⟨t, rfl⟩ := lg
    have e40 : cutD (nats row) none (some (40 : Int)) = nats (row.take 40) := by
      have z := cut_take (l := nats row) (k := 40)
      refine z.trans ?_
      unfold nats
      rw [List.map_take]
    have eLT : ((W + H + De - 3 : Nat) : Int) + (T : Int) = ((W + H + De - 3 + T : Nat) : Int) := by omega
    simp only [sSeq, sNil, sIf, sRet, sRetN, sSet, sAsg, sExpr, sNever, sFor, sNox, sBrk, sCont, sFldD, sAug, sAugS, dVar, dC, dOp, dI0, dII, dNeg, dInv, dAndV, dOrV, dNotV, dTst, dTru, dAnd, dOr, dNot, dIfE, dChn, dCall, dCallK, dMake, aNil, aCons, dTup, dLst, dLstH, dFldC, dCB, dBM, tgN, tgSub, iL, iT, iR1, iR2, DEnds.xx, dLc, dLcH, dYes, dSl, oNon, oSome, nI2, nTup, nLst, nLstH, mApp, wipeD, dIn, dIsN, dNotN, dAddH, dMulH, iS, iEnS, iZipD, iZip3D, dIsB, dJoin, dRgT, dRgL, dRgH, dDNew, dDNewT, sDPutD, tru_bl, tru_int, add_int, add_tup, mul_int, len_tup, len_lst, len_fz, ne_int, eq_int, ne_bl, eq_bl, int_int, int_bl, ty_end, asL_lst, asL_fz, asS_tup, asS_lst, asS_fz, tgs_cons_eq, tgs_nil_eq, tg_tup_eq, tg_lst_eq, at_end, set_end, asS_end, asL_end, at_pre, set_pre, ty_pre, dTupRev, asS_tup, asS_lst, rz_end, rz_lst, mulT_tup, min3_eq, List.getElem?_cons_zero, List.getElem?_cons_succ, Option.some.injEq, exists_eq_left', exists_eq_left, exists_and_left, exists_and_right, and_assoc, D.int.injEq, D.bl.injEq, D.str.injEq, D.tup.injEq, D.lst.injEq, D.fz.injEq, D.ref.injEq, HB.lst.injEq, List.cons.injEq, and_true, true_and, List.set_cons_zero, List.set_cons_succ, List.map_cons, List.map_nil, List.length_cons, List.length_nil, Nat.reduceAdd, Nat.reduceSub, Nat.sub_self, Nat.zero_add, List.replicate_zero, List.replicate_succ, List.append_nil, List.cons_append, List.nil_append, decide_eq_true_eq, decide_eq_false_iff_not, Bool.not_eq_true', Bool.not_eq_false', Bool.true_eq_false, Bool.false_eq_true, false_implies, forall_const, true_implies, reduceCtorEq, and_false, false_and, Bool.not_true, Bool.not_false, if_true, if_false, isT_00, isT_01, isT_02, isT_03, isT_04, plB_0, isT_10, isT_11, isT_12, isT_13, isT_14, plB_1, isT_20, isT_21, isT_22, isT_23, isT_24, plB_2, isT_30, isT_31, isT_32, isT_33, isT_34, plB_3, isT_40, isT_41, isT_42, isT_43, isT_44, plB_4, isT_50, isT_51, isT_52, isT_53, isT_54, plB_5, isT_60, isT_61, isT_62, isT_63, isT_64, plB_6, plB_0, plB_1, plB_2, plB_3, plB_4, plB_5, plB_6, isi_00, isi_01, isi_02, isi_03, isi_04, isi_lt_0, isi_tl_0, isi_10, isi_11, isi_12, isi_13, isi_14, isi_lt_1, isi_tl_1, isi_20, isi_21, isi_22, isi_23, isi_24, isi_lt_2, isi_tl_2, isi_30, isi_31, isi_32, isi_33, isi_34, isi_lt_3, isi_tl_3, isi_40, isi_41, isi_42, isi_43, isi_44, isi_lt_4, isi_tl_4, isi_50, isi_51, isi_52, isi_53, isi_54, isi_lt_5, isi_tl_5, isi_60, isi_61, isi_62, isi_63, isi_64, isi_lt_6, isi_tl_6, isN_0, isN_1, isN_2, isN_3, isN_4, isN_5, isN_6, sizeLine_eq, Nat.reduceLeDiff, Nat.reduceLT, Nat.le_refl, Nat.zero_le, e40, eLT]
    rw [List.append_assoc]
    refine rt_back ⟨trivial, Bds_nats, trivial⟩ (q _ (row.take 40) T1 (nd.sublist (List.take_sublist _ _)) (fun x hx => lt x (List.mem_of_mem_take hx)) (fun e => ?_) (by rw [List.length_take]; omega))
    rcases List.take_eq_nil_iff.mp e with e | e
    · exact absurd e (by decide)
    · exact ne e
theorem rd_law_axes (ds : List D) (h : DHp) (X : DX) (Q : DK) (hn : ds.length = 1) (c : ct__law_axes ds h X Q) : tb__law_axes (endsD h X Q) (startD N__law_axes.length ds) h := by
  obtain ⟨p, rfl, hp, q⟩ := c
  have g0 : atI (nats p) 0 = some (.int (p.getD 0 0 : Nat)) := get_nat (k := 0) (by omega)
  have g1 : atI (nats p) 1 = some (.int (p.getD 1 0 : Nat)) := get_nat (k := 1) (by omega)
  have g2 : atI (nats p) 2 = some (.int (p.getD 2 0 : Nat)) := get_nat (k := 2) (by omega)
  have g3 : atI (nats p) 3 = some (.int (p.getD 3 0 : Nat)) := get_nat (k := 3) (by omega)
  generalize p.getD 0 0 = p0 at g0
  generalize p.getD 1 0 = p1 at g1
  generalize p.getD 2 0 = p2 at g2
  generalize p.getD 3 0 = p3 at g3
  have e0 : (1 : Int) + (p0 : Int) % 8 = ((1 + p0 % 8 : Nat) : Int) := by omega
  have e1 : (1 : Int) + (p1 : Int) % 8 = ((1 + p1 % 8 : Nat) : Int) := by omega
  have e2 : (1 : Int) + (p2 : Int) % 3 = ((1 + p2 % 3 : Nat) : Int) := by omega
  simp only [tb__law_axes, startD, sSeq, sNil, sIf, sRet, sRetN, sSet, sAsg, sExpr, sNever, sFor, sNox, sBrk, sCont, sFldD, sAug, sAugS, dVar, dC, dOp, dI0, dII, dNeg, dInv, dAndV, dOrV, dNotV, dTst, dTru, dAnd, dOr, dNot, dIfE, dChn, dCall, dCallK, dMake, aNil, aCons, dTup, dLst, dLstH, dFldC, dCB, dBM, tgN, tgSub, iL, iT, iR1, iR2, DEnds.xx, dLc, dLcH, dYes, dSl, oNon, oSome, nI2, nTup, nLst, nLstH, mApp, wipeD, dIn, dIsN, dNotN, dAddH, dMulH, iS, iEnS, iZipD, iZip3D, dIsB, dJoin, dRgT, dRgL, dRgH, dDNew, dDNewT, sDPutD, tru_bl, tru_int, add_int, add_tup, mul_int, len_tup, len_lst, len_fz, ne_int, eq_int, ne_bl, eq_bl, int_int, int_bl, ty_end, asL_lst, asL_fz, asS_tup, asS_lst, asS_fz, tgs_cons_eq, tgs_nil_eq, tg_tup_eq, tg_lst_eq, at_end, set_end, asS_end, asL_end, at_pre, set_pre, ty_pre, dTupRev, asS_tup, asS_lst, rz_end, rz_lst, mulT_tup, min3_eq, List.getElem?_cons_zero, List.getElem?_cons_succ, Option.some.injEq, exists_eq_left', exists_eq_left, exists_and_left, exists_and_right, and_assoc, D.int.injEq, D.bl.injEq, D.str.injEq, D.tup.injEq, D.lst.injEq, D.fz.injEq, D.ref.injEq, HB.lst.injEq, List.cons.injEq, and_true, true_and, List.set_cons_zero, List.set_cons_succ, List.map_cons, List.map_nil, List.length_cons, List.length_nil, Nat.reduceAdd, Nat.reduceSub, Nat.sub_self, Nat.zero_add, List.replicate_zero, List.replicate_succ, List.append_nil, List.cons_append, List.nil_append, decide_eq_true_eq, decide_eq_false_iff_not, Bool.not_eq_true', Bool.not_eq_false', Bool.true_eq_false, Bool.false_eq_true, false_implies, forall_const, true_implies, reduceCtorEq, and_false, false_and, Bool.not_true, Bool.not_false, if_true, if_false, isT_00, isT_01, isT_02, isT_03, isT_04, plB_0, isT_10, isT_11, isT_12, isT_13, isT_14, plB_1, isT_20, isT_21, isT_22, isT_23, isT_24, plB_2, isT_30, isT_31, isT_32, isT_33, isT_34, plB_3, isT_40, isT_41, isT_42, isT_43, isT_44, plB_4, isT_50, isT_51, isT_52, isT_53, isT_54, plB_5, isT_60, isT_61, isT_62, isT_63, isT_64, plB_6, plB_0, plB_1, plB_2, plB_3, plB_4, plB_5, plB_6, isi_00, isi_01, isi_02, isi_03, isi_04, isi_lt_0, isi_tl_0, isi_10, isi_11, isi_12, isi_13, isi_14, isi_lt_1, isi_tl_1, isi_20, isi_21, isi_22, isi_23, isi_24, isi_lt_2, isi_tl_2, isi_30, isi_31, isi_32, isi_33, isi_34, isi_lt_3, isi_tl_3, isi_40, isi_41, isi_42, isi_43, isi_44, isi_lt_4, isi_tl_4, isi_50, isi_51, isi_52, isi_53, isi_54, isi_lt_5, isi_tl_5, isi_60, isi_61, isi_62, isi_63, isi_64, isi_lt_6, isi_tl_6, isN_0, isN_1, isN_2, isN_3, isN_4, isN_5, isN_6, sizeLine_eq, Nat.reduceLeDiff, Nat.reduceLT, Nat.le_refl, Nat.zero_le, ix_lst g0, ix_lst g1, ix_lst g2, e0, e1, e2]
  refine ⟨by decide, by decide, by decide, by decide, fun _ => ?_, fun _ => ?_⟩
  · exact axes_X1 (De := 1) (by omega) (by omega) (by omega) (by omega) (by omega) (by omega) g3 q
  · exact axes_X1 (by omega) (by omega) (by omega) (by omega) (by omega) (by omega) g3 q
end L2.MW.K34

namespace L2.MW.K34
open PySem PySem.Spec PyProof.Rows L2 L2.MW
theorem B1bag {h : DHp} {X : DX} {Q : DK} {ns : List Int} {r : List Nat} {L : Nat} {row : List Nat} (hl : ns.length ≤ 63) (hr : r.length = 8) (ok : BagOk L row) {o2 o3 o5 o6 : Option D} (q : ∀ L row, BagOk L row → Q (.lst [.int (L : Nat), .lst (nats row)]) h) :
    tb__law_bag_B1 (endsD h X Q) [some (.fz (ns.map D.int)), some (.lst (nats r)), o2, o3, some (.ref h.length), o5, o6] (h ++ [.lst [.int L, .lst (nats row)]]) := by
  have g5 : atI (nats r) 5 = some (.int (r.getD 5 0 : Nat)) := get_nat (k := 5) (by omega)
  have em : asS (h ++ [.lst [.int L, .lst (nats row)]]) (.ref h.length) = some [.int L, .lst (nats row)] := asS_end
  have i0 : ∀ {Q : DK}, dIx (.ref h.length) (.int 0) (h ++ [.lst [.int L, .lst (nats row)]]) Q ↔ Q (.int L) (h ++ [.lst [.int L, .lst (nats row)]]) := ix_eq em rfl
  have i1 : ∀ {Q : DK}, dIx (.ref h.length) (.int 1) (h ++ [.lst [.int L, .lst (nats row)]]) Q ↔ Q (.lst (nats row)) (h ++ [.lst [.int L, .lst (nats row)]]) := ix_eq em rfl
  have fin : ∀ {L row}, BagOk L row → (endsD h X Q).rt (.ref h.length) (h ++ [.lst [.int (L : Nat), .lst (nats row)]]) := fun {L row} ok => rt_lst ⟨trivial, Bds_nats, trivial⟩ (q L row ok)
  simp only [tb__law_bag_B1, sSeq, sNil, sIf, sRet, sRetN, sSet, sAsg, sExpr, sNever, sFor, sNox, sBrk, sCont, sFldD, sAug, sAugS, dVar, dC, dOp, dI0, dII, dNeg, dInv, dAndV, dOrV, dNotV, dTst, dTru, dAnd, dOr, dNot, dIfE, dChn, dCall, dCallK, dMake, aNil, aCons, dTup, dLst, dLstH, dFldC, dCB, dBM, tgN, tgSub, iL, iT, iR1, iR2, DEnds.xx, dLc, dLcH, dYes, dSl, oNon, oSome, nI2, nTup, nLst, nLstH, mApp, wipeD, dIn, dIsN, dNotN, dAddH, dMulH, iS, iEnS, iZipD, iZip3D, dIsB, dJoin, dRgT, dRgL, dRgH, dDNew, dDNewT, sDPutD, tru_bl, tru_int, add_int, add_tup, mul_int, len_tup, len_lst, len_fz, ne_int, eq_int, ne_bl, eq_bl, int_int, int_bl, ty_end, asL_lst, asL_fz, asS_tup, asS_lst, asS_fz, tgs_cons_eq, tgs_nil_eq, tg_tup_eq, tg_lst_eq, at_end, set_end, asS_end, asL_end, at_pre, set_pre, ty_pre, dTupRev, asS_tup, asS_lst, rz_end, rz_lst, mulT_tup, min3_eq, List.getElem?_cons_zero, List.getElem?_cons_succ, Option.some.injEq, exists_eq_left', exists_eq_left, exists_and_left, exists_and_right, and_assoc, D.int.injEq, D.bl.injEq, D.str.injEq, D.tup.injEq, D.lst.injEq, D.fz.injEq, D.ref.injEq, HB.lst.injEq, List.cons.injEq, and_true, true_and, List.set_cons_zero, List.set_cons_succ, List.map_cons, List.map_nil, List.length_cons, List.length_nil, Nat.reduceAdd, Nat.reduceSub, Nat.sub_self, Nat.zero_add, List.replicate_zero, List.replicate_succ, List.append_nil, List.cons_append, List.nil_append, decide_eq_true_eq, decide_eq_false_iff_not, Bool.not_eq_true', Bool.not_eq_false', Bool.true_eq_false, Bool.false_eq_true, false_implies, forall_const, true_implies, reduceCtorEq, and_false, false_and, Bool.not_true, Bool.not_false, if_true, if_false, isT_00, isT_01, isT_02, isT_03, isT_04, plB_0, isT_10, isT_11, isT_12, isT_13, isT_14, plB_1, isT_20, isT_21, isT_22, isT_23, isT_24, plB_2, isT_30, isT_31, isT_32, isT_33, isT_34, plB_3, isT_40, isT_41, isT_42, isT_43, isT_44, plB_4, isT_50, isT_51, isT_52, isT_53, isT_54, plB_5, isT_60, isT_61, isT_62, isT_63, isT_64, plB_6, plB_0, plB_1, plB_2, plB_3, plB_4, plB_5, plB_6, isi_00, isi_01, isi_02, isi_03, isi_04, isi_lt_0, isi_tl_0, isi_10, isi_11, isi_12, isi_13, isi_14, isi_lt_1, isi_tl_1, isi_20, isi_21, isi_22, isi_23, isi_24, isi_lt_2, isi_tl_2, isi_30, isi_31, isi_32, isi_33, isi_34, isi_lt_3, isi_tl_3, isi_40, isi_41, isi_42, isi_43, isi_44, isi_lt_4, isi_tl_4, isi_50, isi_51, isi_52, isi_53, isi_54, isi_lt_5, isi_tl_5, isi_60, isi_61, isi_62, isi_63, isi_64, isi_lt_6, isi_tl_6, isN_0, isN_1, isN_2, isN_3, isN_4, isN_5, isN_6, sizeLine_eq, Nat.reduceLeDiff, Nat.reduceLT, Nat.le_refl, Nat.zero_le, ix_lst g5, i0, i1]
  refine ⟨by decide, fun _ => ⟨ns, 2, 1, L, rfl, hl, by omega, by omega, by have := ok.le; omega, fun row1 rn1 l1 ne1 => ?_⟩, fun _ => fin ok⟩
  obtain ⟨m, row2, rfl⟩ := List.exists_cons_of_ne_nil (ne1 (by decide))
  have gm : atI (nats (m :: row2)) 0 = some (.int (m : Nat)) := nats_at (e := 0) rfl
  have hm := rn1.lt m List.mem_cons_self
  have few := ok.few
  simp only [ix_lst gm, i1, tru_bl, tru_int, add_int, add_tup, mul_int, len_tup, len_lst, len_fz, ne_int, eq_int, ne_bl, eq_bl, int_int, int_bl, ty_end, asL_lst, asL_fz, asS_tup, asS_lst, asS_fz, tgs_cons_eq, tgs_nil_eq, tg_tup_eq, tg_lst_eq, at_end, set_end, asS_end, asL_end, at_pre, set_pre, ty_pre, dTupRev, asS_tup, asS_lst, rz_end, rz_lst, mulT_tup, min3_eq, List.getElem?_cons_zero, List.getElem?_cons_succ, Option.some.injEq, exists_eq_left', exists_eq_left, exists_and_left, exists_and_right, and_assoc, D.int.injEq, D.bl.injEq, D.str.injEq, D.tup.injEq, D.lst.injEq, D.fz.injEq, D.ref.injEq, HB.lst.injEq, List.cons.injEq, and_true, true_and, List.set_cons_zero, List.set_cons_succ, List.map_cons, List.map_nil, List.length_cons, List.length_nil, Nat.reduceAdd, Nat.reduceSub, Nat.sub_self, Nat.zero_add, List.replicate_zero, List.replicate_succ, List.append_nil, List.cons_append, List.nil_append, decide_eq_true_eq, decide_eq_false_iff_not, Bool.not_eq_true', Bool.not_eq_false', Bool.true_eq_false, Bool.false_eq_true, false_implies, forall_const, true_implies, reduceCtorEq, and_false, false_and, Bool.not_true, Bool.not_false, if_true, if_false, sizeLine_eq, Nat.reduceLeDiff, Nat.reduceLT, Nat.le_refl, Nat.zero_le, nat_any, nats_len]
  refine ⟨trivial, nats_ok, fun z => ⟨fun hlt => ?_, fun _ => fin ok⟩, fun _ => fin ok⟩
  have nd : (row ++ [m]).Nodup := List.nodup_append.mpr ⟨ok.rn.up.imp fun {a b} hab => Nat.ne_of_lt hab, List.nodup_cons.mpr ⟨nofun, List.nodup_nil⟩, fun y hy w hw e => by
    rw [List.mem_singleton.mp hw] at e
    rw [← e] at z
    simp [hy] at z⟩
  refine ⟨nats row, [.int (m : Nat)], rfl, rfl, by rw [nats_len, sizeLine_eq]; simp; omega, ?_⟩
  refine sorted_row (row := row ++ [m]) (L := L) (by rw [nats_app]; rfl) nd (fun x hx => ?_) fun row' rn' len' hne => ?_
  · rcases List.mem_append.mp hx with hx | hx
    · exact ok.rn.lt x hx
    · rw [List.mem_singleton.mp hx]; exact hm
  · refine ⟨_, at_end, 1, rfl, ?_⟩
    rw [set_end]
    exact fin ⟨ok.le, rn', hne (by simp), by rw [len', List.length_append]; simp only [List.length_singleton]; omega⟩
theorem rd_law_bag (ds : List D) (h : DHp) (X : DX) (Q : DK) (hn : ds.length = 1) (c : ct__law_bag ds h X Q) : tb__law_bag (endsD h X Q) (startD N__law_bag.length ds) h := by
  obtain ⟨ns, rfl, hl, q⟩ := c
  simp only [tb__law_bag, startD, sSeq, sNil, sIf, sRet, sRetN, sSet, sAsg, sExpr, sNever, sFor, sNox, sBrk, sCont, sFldD, sAug, sAugS, dVar, dC, dOp, dI0, dII, dNeg, dInv, dAndV, dOrV, dNotV, dTst, dTru, dAnd, dOr, dNot, dIfE, dChn, dCall, dCallK, dMake, aNil, aCons, dTup, dLst, dLstH, dFldC, dCB, dBM, tgN, tgSub, iL, iT, iR1, iR2, DEnds.xx, dLc, dLcH, dYes, dSl, oNon, oSome, nI2, nTup, nLst, nLstH, mApp, wipeD, dIn, dIsN, dNotN, dAddH, dMulH, iS, iEnS, iZipD, iZip3D, dIsB, dJoin, dRgT, dRgL, dRgH, dDNew, dDNewT, sDPutD, tru_bl, tru_int, add_int, add_tup, mul_int, len_tup, len_lst, len_fz, ne_int, eq_int, ne_bl, eq_bl, int_int, int_bl, ty_end, asL_lst, asL_fz, asS_tup, asS_lst, asS_fz, tgs_cons_eq, tgs_nil_eq, tg_tup_eq, tg_lst_eq, at_end, set_end, asS_end, asL_end, at_pre, set_pre, ty_pre, dTupRev, asS_tup, asS_lst, rz_end, rz_lst, mulT_tup, min3_eq, List.getElem?_cons_zero, List.getElem?_cons_succ, Option.some.injEq, exists_eq_left', exists_eq_left, exists_and_left, exists_and_right, and_assoc, D.int.injEq, D.bl.injEq, D.str.injEq, D.tup.injEq, D.lst.injEq, D.fz.injEq, D.ref.injEq, HB.lst.injEq, List.cons.injEq, and_true, true_and, List.set_cons_zero, List.set_cons_succ, List.map_cons, List.map_nil, List.length_cons, List.length_nil, Nat.reduceAdd, Nat.reduceSub, Nat.sub_self, Nat.zero_add, List.replicate_zero, List.replicate_succ, List.append_nil, List.cons_append, List.nil_append, decide_eq_true_eq, decide_eq_false_iff_not, Bool.not_eq_true', Bool.not_eq_false', Bool.true_eq_false, Bool.false_eq_true, false_implies, forall_const, true_implies, reduceCtorEq, and_false, false_and, Bool.not_true, Bool.not_false, if_true, if_false, isT_00, isT_01, isT_02, isT_03, isT_04, plB_0, isT_10, isT_11, isT_12, isT_13, isT_14, plB_1, isT_20, isT_21, isT_22, isT_23, isT_24, plB_2, isT_30, isT_31, isT_32, isT_33, isT_34, plB_3, isT_40, isT_41, isT_42, isT_43, isT_44, plB_4, isT_50, isT_51, isT_52, isT_53, isT_54, plB_5, isT_60, isT_61, isT_62, isT_63, isT_64, plB_6, plB_0, plB_1, plB_2, plB_3, plB_4, plB_5, plB_6, isi_00, isi_01, isi_02, isi_03, isi_04, isi_lt_0, isi_tl_0, isi_10, isi_11, isi_12, isi_13, isi_14, isi_lt_1, isi_tl_1, isi_20, isi_21, isi_22, isi_23, isi_24, isi_lt_2, isi_tl_2, isi_30, isi_31, isi_32, isi_33, isi_34, isi_lt_3, isi_tl_3, isi_40, isi_41, isi_42, isi_43, isi_44, isi_lt_4, isi_tl_4, isi_50, isi_51, isi_52, isi_53, isi_54, isi_lt_5, isi_tl_5, isi_60, isi_61, isi_62, isi_63, isi_64, isi_lt_6, isi_tl_6, isN_0, isN_1, isN_2, isN_3, isN_4, isN_5, isN_6, sizeLine_eq, Nat.reduceLeDiff, Nat.reduceLT, Nat.le_refl, Nat.zero_le]
  refine ⟨ns, 0, 8, 1009, rfl, hl, by decide, by decide, by decide, fun r hr hb => ?_⟩
  have g0 : atI (nats r) 0 = some (.int (r.getD 0 0 : Nat)) := get_nat (k := 0) (by omega)
  have g1 : atI (nats r) 1 = some (.int (r.getD 1 0 : Nat)) := get_nat (k := 1) (by omega)
  have g2 : atI (nats r) 2 = some (.int (r.getD 2 0 : Nat)) := get_nat (k := 2) (by omega)
  have g3 : atI (nats r) 3 = some (.int (r.getD 3 0 : Nat)) := get_nat (k := 3) (by omega)
  have g5 : atI (nats r) 5 = some (.int (r.getD 5 0 : Nat)) := get_nat (k := 5) (by omega)
  have g6 : atI (nats r) 6 = some (.int (r.getD 6 0 : Nat)) := get_nat (k := 6) (by omega)
  have lr := hr
  have ec : cutD (nats r) (some 1) (some 5) = nats ((r.drop 1).take 4) := by
    have z := cut_mid (l := nats r) (i := 1) (n := 4) (by rw [nats_len]; omega)
    refine z.trans ?_
    unfold nats
    rw [List.map_take, List.map_drop]
  generalize r.getD 0 0 = p0 at g0
  generalize r.getD 1 0 = p1 at g1
  generalize r.getD 2 0 = p2 at g2
  generalize r.getD 3 0 = p3 at g3
  generalize r.getD 5 0 = p5 at g5
  generalize r.getD 6 0 = p6 at g6
  have e1 : (1 : Int) + (p1 : Int) % 7 = ((1 + p1 % 7 : Nat) : Int) := by omega
  have e2 : (1 : Int) + (p2 : Int) % 8 = ((1 + p2 % 8 : Nat) : Int) := by omega
  have e3 : (1 : Int) + (p2 : Int) % 40 = ((1 + p2 % 40 : Nat) : Int) := by omega
  have keep : ∀ {L row}, BagOk L row → (endsD h X Q).rt (.lst [.int (L : Nat), .lst (nats row)]) h := fun {L row} ok => rt_keep (q L row ok)
  obtain ⟨d1, ⟨L1, b1, rfl⟩, e4⟩ := pick (l := [D.int ((p1 : Int) % 40), D.int 39, D.int 0, D.int 1]) (n := 4) (P := lnt 39) p3 rfl (by decide) (by
    intro d hd
    simp only [List.mem_cons, List.not_mem_nil, or_false] at hd
    rcases hd with rfl | rfl | rfl | rfl
    · exact ⟨p1 % 40, by omega, by rw [← mod_nat]; rfl⟩
    · exact ⟨39, by decide, rfl⟩
    · exact ⟨0, by decide, rfl⟩
    · exact ⟨1, by decide, rfl⟩)
  have e4' : atI [D.int ((p1 : Int) % 40), D.int 39, D.int 0, D.int 1] ((p3 : Int) % 4) = some (.int L1) := e4
  simp only [sSeq, sNil, sIf, sRet, sRetN, sSet, sAsg, sExpr, sNever, sFor, sNox, sBrk, sCont, sFldD, sAug, sAugS, dVar, dC, dOp, dI0, dII, dNeg, dInv, dAndV, dOrV, dNotV, dTst, dTru, dAnd, dOr, dNot, dIfE, dChn, dCall, dCallK, dMake, aNil, aCons, dTup, dLst, dLstH, dFldC, dCB, dBM, tgN, tgSub, iL, iT, iR1, iR2, DEnds.xx, dLc, dLcH, dYes, dSl, oNon, oSome, nI2, nTup, nLst, nLstH, mApp, wipeD, dIn, dIsN, dNotN, dAddH, dMulH, iS, iEnS, iZipD, iZip3D, dIsB, dJoin, dRgT, dRgL, dRgH, dDNew, dDNewT, sDPutD, tru_bl, tru_int, add_int, add_tup, mul_int, len_tup, len_lst, len_fz, ne_int, eq_int, ne_bl, eq_bl, int_int, int_bl, ty_end, asL_lst, asL_fz, asS_tup, asS_lst, asS_fz, tgs_cons_eq, tgs_nil_eq, tg_tup_eq, tg_lst_eq, at_end, set_end, asS_end, asL_end, at_pre, set_pre, ty_pre, dTupRev, asS_tup, asS_lst, rz_end, rz_lst, mulT_tup, min3_eq, List.getElem?_cons_zero, List.getElem?_cons_succ, Option.some.injEq, exists_eq_left', exists_eq_left, exists_and_left, exists_and_right, and_assoc, D.int.injEq, D.bl.injEq, D.str.injEq, D.tup.injEq, D.lst.injEq, D.fz.injEq, D.ref.injEq, HB.lst.injEq, List.cons.injEq, and_true, true_and, List.set_cons_zero, List.set_cons_succ, List.map_cons, List.map_nil, List.length_cons, List.length_nil, Nat.reduceAdd, Nat.reduceSub, Nat.sub_self, Nat.zero_add, List.replicate_zero, List.replicate_succ, List.append_nil, List.cons_append, List.nil_append, decide_eq_true_eq, decide_eq_false_iff_not, Bool.not_eq_true', Bool.not_eq_false', Bool.true_eq_false, Bool.false_eq_true, false_implies, forall_const, true_implies, reduceCtorEq, and_false, false_and, Bool.not_true, Bool.not_false, if_true, if_false, isT_00, isT_01, isT_02, isT_03, isT_04, plB_0, isT_10, isT_11, isT_12, isT_13, isT_14, plB_1, isT_20, isT_21, isT_22, isT_23, isT_24, plB_2, isT_30, isT_31, isT_32, isT_33, isT_34, plB_3, isT_40, isT_41, isT_42, isT_43, isT_44, plB_4, isT_50, isT_51, isT_52, isT_53, isT_54, plB_5, isT_60, isT_61, isT_62, isT_63, isT_64, plB_6, plB_0, plB_1, plB_2, plB_3, plB_4, plB_5, plB_6, isi_00, isi_01, isi_02, isi_03, isi_04, isi_lt_0, isi_tl_0, isi_10, isi_11, isi_12, isi_13, isi_14, isi_lt_1, isi_tl_1, isi_20, isi_21, isi_22, isi_23, isi_24, isi_lt_2, isi_tl_2, isi_30, isi_31, isi_32, isi_33, isi_34, isi_lt_3, isi_tl_3, isi_40, isi_41, isi_42, isi_43, isi_44, isi_lt_4, isi_tl_4, isi_50, isi_51, isi_52, isi_53, isi_54, isi_lt_5, isi_tl_5, isi_60, isi_61, isi_62, isi_63, isi_64, isi_lt_6, isi_tl_6, isN_0, isN_1, isN_2, isN_3, isN_4, isN_5, isN_6, sizeLine_eq, Nat.reduceLeDiff, Nat.reduceLT, Nat.le_refl, Nat.zero_le, ix_lst g0, ix_lst g1, ix_lst g2, ix_lst g3, e1, e2, e3, ix_lst e4', ec]
  refine ⟨by decide, fun _ => ⟨by decide, by decide, ns, 1, 1 + p2 % 8, 1 + p1 % 7, by simp, hl, by omega, by omega, by omega, fun row rn len ne => keep ⟨by omega, rn, ne (by omega), by omega⟩⟩, fun _ => ⟨fun _ => ?_, fun _ => ?_⟩⟩
  · exact ⟨by decide, by decide, by decide, ns, 1, 1 + p2 % 40, L1, by simp, hl, by omega, by omega, by omega, fun row rn len ne => keep ⟨b1, rn, ne (by omega), by omega⟩⟩
  · refine ⟨_, rfl, by rw [List.length_take, List.length_drop]; omega, fun L row hL nd lt ne few => ?_⟩
    simp only [sSeq, sNil, sIf, sRet, sRetN, sSet, sAsg, sExpr, sNever, sFor, sNox, sBrk, sCont, sFldD, sAug, sAugS, dVar, dC, dOp, dI0, dII, dNeg, dInv, dAndV, dOrV, dNotV, dTst, dTru, dAnd, dOr, dNot, dIfE, dChn, dCall, dCallK, dMake, aNil, aCons, dTup, dLst, dLstH, dFldC, dCB, dBM, tgN, tgSub, iL, iT, iR1, iR2, DEnds.xx, dLc, dLcH, dYes, dSl, oNon, oSome, nI2, nTup, nLst, nLstH, mApp, wipeD, dIn, dIsN, dNotN, dAddH, dMulH, iS, iEnS, iZipD, iZip3D, dIsB, dJoin, dRgT, dRgL, dRgH, dDNew, dDNewT, sDPutD, tru_bl, tru_int, add_int, add_tup, mul_int, len_tup, len_lst, len_fz, ne_int, eq_int, ne_bl, eq_bl, int_int, int_bl, ty_end, asL_lst, asL_fz, asS_tup, asS_lst, asS_fz, tgs_cons_eq, tgs_nil_eq, tg_tup_eq, tg_lst_eq, at_end, set_end, asS_end, asL_end, at_pre, set_pre, ty_pre, dTupRev, asS_tup, asS_lst, rz_end, rz_lst, mulT_tup, min3_eq, List.getElem?_cons_zero, List.getElem?_cons_succ, Option.some.injEq, exists_eq_left', exists_eq_left, exists_and_left, exists_and_right, and_assoc, D.int.injEq, D.bl.injEq, D.str.injEq, D.tup.injEq, D.lst.injEq, D.fz.injEq, D.ref.injEq, HB.lst.injEq, List.cons.injEq, and_true, true_and, List.set_cons_zero, List.set_cons_succ, List.map_cons, List.map_nil, List.length_cons, List.length_nil, Nat.reduceAdd, Nat.reduceSub, Nat.sub_self, Nat.zero_add, List.replicate_zero, List.replicate_succ, List.append_nil, List.cons_append, List.nil_append, decide_eq_true_eq, decide_eq_false_iff_not, Bool.not_eq_true', Bool.not_eq_false', Bool.true_eq_false, Bool.false_eq_true, false_implies, forall_const, true_implies, reduceCtorEq, and_false, false_and, Bool.not_true, Bool.not_false, if_true, if_false, isT_00, isT_01, isT_02, isT_03, isT_04, plB_0, isT_10, isT_11, isT_12, isT_13, isT_14, plB_1, isT_20, isT_21, isT_22, isT_23, isT_24, plB_2, isT_30, isT_31, isT_32, isT_33, isT_34, plB_3, isT_40, isT_41, isT_42, isT_43, isT_44, plB_4, isT_50, isT_51, isT_52, isT_53, isT_54, plB_5, isT_60, isT_61, isT_62, isT_63, isT_64, plB_6, plB_0, plB_1, plB_2, plB_3, plB_4, plB_5, plB_6, isi_00, isi_01, isi_02, isi_03, isi_04, isi_lt_0, isi_tl_0, isi_10, isi_11, isi_12, isi_13, isi_14, isi_lt_1, isi_tl_1, isi_20, isi_21, isi_22, isi_23, isi_24, isi_lt_2, isi_tl_2, isi_30, isi_31, isi_32, isi_33, isi_34, isi_lt_3, isi_tl_3, isi_40, isi_41, isi_42, isi_43, isi_44, isi_lt_4, isi_tl_4, isi_50, isi_51, isi_52, isi_53, isi_54, isi_lt_5, isi_tl_5, isi_60, isi_61, isi_62, isi_63, isi_64, isi_lt_6, isi_tl_6, isN_0, isN_1, isN_2, isN_3, isN_4, isN_5, isN_6, sizeLine_eq, Nat.reduceLeDiff, Nat.reduceLT, Nat.le_refl, Nat.zero_le, ix_lst atI_0, ix_lst atI_1]
    refine ⟨ns, 1, 44, 1009, rfl, hl, by decide, by decide, by decide, fun keys hk hb => ?_⟩
    refine ⟨L, row, keys, rfl, hL, nd, lt, ne, few, hk, hb, fun L' row' ok => ?_⟩
    have em : asS (h ++ [.lst [.int L', .lst (nats row')]]) (.ref h.length) = some [.int L', .lst (nats row')] := asS_end
    have i1 : ∀ {Q : DK}, dIx (.ref h.length) (.int 1) (h ++ [.lst [.int L', .lst (nats row')]]) Q ↔ Q (.lst (nats row')) (h ++ [.lst [.int L', .lst (nats row')]]) := ix_eq em rfl
    have hp : 0 < row'.length := List.length_pos_iff.mpr ok.ne
    have em6 : ((p6 : Nat) : Int) % ((row'.length : Nat) : Int) = ((p6 % row'.length : Nat) : Int) := mod_nat _ _
    generalize hk : p6 % row'.length = k at em6
    have hkl : k < row'.length := by rw [← hk]; exact Nat.mod_lt _ hp
    have ek : (k : Int) + 1 = ((k + 1 : Nat) : Int) := by omega
    have few := ok.few
    simp only [sSeq, sNil, sIf, sRet, sRetN, sSet, sAsg, sExpr, sNever, sFor, sNox, sBrk, sCont, sFldD, sAug, sAugS, dVar, dC, dOp, dI0, dII, dNeg, dInv, dAndV, dOrV, dNotV, dTst, dTru, dAnd, dOr, dNot, dIfE, dChn, dCall, dCallK, dMake, aNil, aCons, dTup, dLst, dLstH, dFldC, dCB, dBM, tgN, tgSub, iL, iT, iR1, iR2, DEnds.xx, dLc, dLcH, dYes, dSl, oNon, oSome, nI2, nTup, nLst, nLstH, mApp, wipeD, dIn, dIsN, dNotN, dAddH, dMulH, iS, iEnS, iZipD, iZip3D, dIsB, dJoin, dRgT, dRgL, dRgH, dDNew, dDNewT, sDPutD, tru_bl, tru_int, add_int, add_tup, mul_int, len_tup, len_lst, len_fz, ne_int, eq_int, ne_bl, eq_bl, int_int, int_bl, ty_end, asL_lst, asL_fz, asS_tup, asS_lst, asS_fz, tgs_cons_eq, tgs_nil_eq, tg_tup_eq, tg_lst_eq, at_end, set_end, asS_end, asL_end, at_pre, set_pre, ty_pre, dTupRev, asS_tup, asS_lst, rz_end, rz_lst, mulT_tup, min3_eq, List.getElem?_cons_zero, List.getElem?_cons_succ, Option.some.injEq, exists_eq_left', exists_eq_left, exists_and_left, exists_and_right, and_assoc, D.int.injEq, D.bl.injEq, D.str.injEq, D.tup.injEq, D.lst.injEq, D.fz.injEq, D.ref.injEq, HB.lst.injEq, List.cons.injEq, and_true, true_and, List.set_cons_zero, List.set_cons_succ, List.map_cons, List.map_nil, List.length_cons, List.length_nil, Nat.reduceAdd, Nat.reduceSub, Nat.sub_self, Nat.zero_add, List.replicate_zero, List.replicate_succ, List.append_nil, List.cons_append, List.nil_append, decide_eq_true_eq, decide_eq_false_iff_not, Bool.not_eq_true', Bool.not_eq_false', Bool.true_eq_false, Bool.false_eq_true, false_implies, forall_const, true_implies, reduceCtorEq, and_false, false_and, Bool.not_true, Bool.not_false, if_true, if_false, isT_00, isT_01, isT_02, isT_03, isT_04, plB_0, isT_10, isT_11, isT_12, isT_13, isT_14, plB_1, isT_20, isT_21, isT_22, isT_23, isT_24, plB_2, isT_30, isT_31, isT_32, isT_33, isT_34, plB_3, isT_40, isT_41, isT_42, isT_43, isT_44, plB_4, isT_50, isT_51, isT_52, isT_53, isT_54, plB_5, isT_60, isT_61, isT_62, isT_63, isT_64, plB_6, plB_0, plB_1, plB_2, plB_3, plB_4, plB_5, plB_6, isi_00, isi_01, isi_02, isi_03, isi_04, isi_lt_0, isi_tl_0, isi_10, isi_11, isi_12, isi_13, isi_14, isi_lt_1, isi_tl_1, isi_20, isi_21, isi_22, isi_23, isi_24, isi_lt_2, isi_tl_2, isi_30, isi_31, isi_32, isi_33, isi_34, isi_lt_3, isi_tl_3, isi_40, isi_41, isi_42, isi_43, isi_44, isi_lt_4, isi_tl_4, isi_50, isi_51, isi_52, isi_53, isi_54, isi_lt_5, isi_tl_5, isi_60, isi_61, isi_62, isi_63, isi_64, isi_lt_6, isi_tl_6, isN_0, isN_1, isN_2, isN_3, isN_4, isN_5, isN_6, sizeLine_eq, Nat.reduceLeDiff, Nat.reduceLT, Nat.le_refl, Nat.zero_le, ix_lst g5, ix_lst g6, i1, nats_len, em6, ek, cut_take, cut_drop]
    refine ⟨by omega, by decide, fun _ => ⟨fun h1 => ?_, fun _ => B1bag hl lr ok q⟩, fun _ => B1bag hl lr ok q⟩
    refine ⟨_, _, rfl, rfl, by rw [List.length_take, List.length_drop, nats_len, sizeLine_eq]; omega, ?_⟩
    have e : (nats row').take k ++ (nats row').drop (k + 1) = nats (row'.eraseIdx k) := by
      unfold nats
      rw [List.eraseIdx_eq_take_drop_succ, List.map_append, List.map_take, List.map_drop]
    rw [e]
    have sub := List.eraseIdx_sublist row' k
    have le := List.length_eraseIdx_of_lt hkl
    refine ⟨_, at_end, 1, rfl, ?_⟩
    rw [set_end]
    refine B1bag hl lr ⟨ok.le, ⟨ok.rn.up.sublist sub, fun x hx => ok.rn.lt x (sub.subset hx)⟩, fun z => ?_, by omega⟩ q
    rw [z] at le
    simp at le
    omega
end L2.MW.K34

namespace L2.MW.K34
open PySem PySem.Spec PyProof.Rows L2 L2.MW
/-! ### what is closed has no more to find -/
theorem addN_self {ns : List Nat} {m : Nat} (h : m ∈ ns) : addN ns m = ns := if_pos h
theorem fold_self : ∀ (cs : List Nat) {ns : List Nat}, (∀ x ∈ cs, x ∈ ns) → cs.foldl addN ns = ns
  | [], _, _ => rfl
  | c :: cs, ns, h => by
    rw [List.foldl_cons, addN_self (h c List.mem_cons_self)]
    exact fold_self cs fun x hx => h x (List.mem_cons_of_mem _ hx)
def Cl (ns : List Nat) : Prop := ∀ x ∈ ns, ∀ y ∈ ns, ∀ z ∈ ns, mj x y z ∈ ns
theorem clo_self {ns : List Nat} (h : Cl ns) : ∀ k, cloF ns k = ns
  | 0 => rfl
  | k + 1 => by
    have ih := clo_self h k
    show (if k < (cloF ns k).length ∧ (cloF ns k).length ≤ 40 then stepC (cloF ns k) k else cloF ns k) = ns
    rw [ih]
    split
    · rename_i hk
      refine fold_self _ fun x hx => ?_
      unfold cands at hx
      obtain ⟨j, hj, hx⟩ := List.mem_flatMap.mp hx
      obtain ⟨i, hi, rfl⟩ := List.mem_map.mp hx
      have hj := List.mem_range.mp hj
      have hi := List.mem_range.mp hi
      exact h _ (getD_mem (by omega)) _ (getD_mem (by omega)) _ (getD_mem hk.1)
    · rfl
theorem mj_swap (a b c : Nat) : mj a b c = mj a c b := by
  refine Nat.eq_of_testBit_eq fun k => ?_
  unfold mj
  simp only [Nat.testBit_or, Nat.testBit_and]
  cases a.testBit k <;> cases b.testBit k <;> cases c.testBit k <;> rfl
theorem mj_same (a c : Nat) : mj a a c = a := by
  refine Nat.eq_of_testBit_eq fun k => ?_
  unfold mj
  simp only [Nat.testBit_or, Nat.testBit_and]
  cases a.testBit k <;> cases c.testBit k <;> rfl
theorem cl_one (x : Nat) : Cl [x] := fun a ha b hb c hc => by
  rw [List.mem_singleton] at ha hb hc
  subst ha; subst hb; subst hc
  rw [mj_same]; exact List.mem_singleton.mpr rfl
theorem clo_all {row : List Nat} : ∀ m, (cloF row m).length ≤ 40 → ∀ i j k, i < j → j < k → k < m → k < (cloF row m).length → mjAt (cloF row m) i j k ∈ cloF row m
  | 0, _, i, j, k, _, _, hk, _ => by omega
  | m + 1, hl, i, j, k, hij, hjk, hkm, hkl => by
    have e : cloF row (m + 1) = if m < (cloF row m).length ∧ (cloF row m).length ≤ 40 then stepC (cloF row m) m else cloF row m := rfl
    by_cases hs : m < (cloF row m).length ∧ (cloF row m).length ≤ 40
    · rw [if_pos hs] at e
      have pre : cloF row m <+: cloF row (m + 1) := by rw [e]; exact fold_pre _
      have em : mjAt (cloF row (m + 1)) i j k = mjAt (cloF row m) i j k := by
        unfold mjAt
        rw [pre_getD pre (show i < _ by omega), pre_getD pre (show j < _ by omega), pre_getD pre (show k < _ by omega)]
      rw [em]
      rcases Nat.lt_or_ge k m with c | c
      · exact pre.subset (clo_all m hs.2 i j k hij hjk c (by omega))
      · have ek : k = m := by omega
        subst ek
        rw [e]
        refine fold_mem _ _ ?_
        unfold cands
        exact List.mem_flatMap.mpr ⟨j, List.mem_range.mpr hjk, List.mem_map.mpr ⟨i, List.mem_range.mpr hij, rfl⟩⟩
    · rw [if_neg hs] at e
      rw [e] at hl hkl ⊢
      exact clo_all m hl i j k hij hjk (by omega) hkl
theorem cl_of {ns : List Nat} (h : ∀ i j k, i < j → j < k → k < ns.length → mjAt ns i j k ∈ ns) : Cl ns := by
  have at_ : ∀ x ∈ ns, ∃ i, i < ns.length ∧ ns.getD i 0 = x := fun x hx => by
    obtain ⟨i, hi, e⟩ := List.getElem_of_mem hx
    exact ⟨i, hi, by rw [List.getD_eq_getElem?_getD, List.getElem?_eq_getElem hi, e]; rfl⟩
  intro x hx y hy z hz
  obtain ⟨i, hi, rfl⟩ := at_ x hx
  obtain ⟨j, hj, rfl⟩ := at_ y hy
  obtain ⟨k, hk, rfl⟩ := at_ z hz
  have s1 : ∀ a b c, mj a b c = mj b a c := mj_com
  have s2 : ∀ a b c, mj a b c = mj a c b := mj_swap
  rcases Nat.lt_trichotomy i j with c1 | c1 | c1
  · rcases Nat.lt_trichotomy j k with c2 | c2 | c2
    · exact h i j k c1 c2 hk
    · subst c2
      rw [s1, s2, mj_same]; exact hy
    · rcases Nat.lt_trichotomy i k with c3 | c3 | c3
      · rw [s2]; exact h i k j c3 c2 hj
      · subst c3
        rw [s2, mj_same]; exact hx
      · rw [s2, s1]; exact h k i j c3 c1 hj
  · subst c1
    rw [mj_same]; exact hx
  · rcases Nat.lt_trichotomy i k with c2 | c2 | c2
    · rw [s1]; exact h j i k c1 c2 hk
    · subst c2
      rw [s2, mj_same]; exact hx
    · rcases Nat.lt_trichotomy j k with c3 | c3 | c3
      · rw [s1, s2]; exact h j k i c3 c2 hi
      · subst c3
        rw [s1, s2, mj_same]; exact hy
      · rw [s2, s1, s2]; exact h k j i c3 c1 hi
theorem Due.cl {L : Nat} {row due : List Nat} (d : Due L row due) (hle : (cloF row 41).length ≤ 40) : Cl due := by
  have c := cl_of fun i j k h1 h2 h3 => clo_all 41 hle i j k h1 h2 (by omega) h3
  have m : ∀ {x}, x ∈ due ↔ x ∈ cloF row 41 := d.pm.mem_iff
  exact fun x hx y hy z hz => m.mpr (c x (m.mp hx) y (m.mp hy) z (m.mp hz))
theorem Due.self {L : Nat} {row due : List Nat} (d : Due L row due) (hle : (cloF row 41).length ≤ 40) : Due L due due := ⟨d.rn, by rw [clo_self (d.cl hle)]⟩
theorem Due.one {L x : Nat} (hx : x < 2 ^ L) : Due L [x] [x] := ⟨⟨List.pairwise_singleton _ _, fun y hy => by rw [List.mem_singleton.mp hy]; exact hx⟩, by rw [clo_self (cl_one x)]⟩
end L2.MW.K34

namespace L2.MW.K34
open PySem PySem.Spec PyProof.Rows L2 L2.MW
theorem Due.bag {L : Nat} {row due : List Nat} (ok : BagOk L row) (d : Due L row due) (hle : (cloF row 41).length ≤ 40) : BagOk L due := by
  have ld := d.pm.length_eq
  have pre : ∀ k, row <+: cloF row k := fun k => by
    induction k with
    | zero => exact List.prefix_rfl
    | succ k ih =>
      show row <+: (if k < (cloF row k).length ∧ (cloF row k).length ≤ 40 then stepC (cloF row k) k else cloF row k)
      split
      · exact ih.trans (fold_pre _)
      · exact ih
  have p0 : 0 < row.length := List.length_pos_iff.mpr ok.ne
  have := (pre 41).length_le
  refine ⟨ok.le, d.rn, fun z => ?_, by omega⟩
  rw [z] at ld
  simp only [List.length_nil] at ld
  omega
theorem atI_last {l : List D} {d : D} (hp : 0 < l.length) (e : l[l.length - 1]? = some d) : atI l (-1) = some d := by
  have e2 : ixN l.length (-1) = some (l.length - 1) := by
    unfold ixN
    rw [if_neg (by decide), if_pos (by omega)]
    congr 1
    omega
  unfold atI
  rw [e2]; exact e
theorem bw (L : Nat) (row : List Nat) (m : Nat) : Bds m (wsD L row) := Bds_all' fun x hx => by
  obtain ⟨n, _, rfl⟩ := List.mem_map.mp hx
  exact Bd.of_pl 3 _ ((wrd_ok _).up (by decide)) _
theorem rd_A3 {h : DHp} {X : DX} {Q : DK} {L : Nat} {row due : List Nat} (ok : BagOk L row) (du : Due L row due) {s0 o5 o6 o7 : Option D} (q : Q (.bl true) h) :
    tb__law_asked_A3 (endsD h X Q) [s0, some (.int L), some (.lst (nats row)), some (.lst (nats due)), some (boO L row), o5, o6, o7] h := by
  have ld := du.pm.length_eq
  simp only [tb__law_asked_A3, sSeq, sNil, sIf, sRet, sRetN, sSet, sAsg, sExpr, sNever, sFor, sNox, sBrk, sCont, sFldD, sAug, sAugS, dVar, dC, dOp, dI0, dII, dNeg, dInv, dAndV, dOrV, dNotV, dTst, dTru, dAnd, dOr, dNot, dIfE, dChn, dCall, dCallK, dMake, aNil, aCons, dTup, dLst, dLstH, dFldC, dCB, dBM, tgN, tgSub, iL, iT, iR1, iR2, DEnds.xx, dLc, dLcH, dYes, dSl, oNon, oSome, nI2, nTup, nLst, nLstH, mApp, wipeD, dIn, dIsN, dNotN, dAddH, dMulH, iS, iEnS, iZipD, iZip3D, dIsB, dJoin, dRgT, dRgL, dRgH, dDNew, dDNewT, sDPutD, tru_bl, tru_int, add_int, add_tup, mul_int, len_tup, len_lst, len_fz, ne_int, eq_int, ne_bl, eq_bl, int_int, int_bl, ty_end, asL_lst, asL_fz, asS_tup, asS_lst, asS_fz, tgs_cons_eq, tgs_nil_eq, tg_tup_eq, tg_lst_eq, at_end, set_end, asS_end, asL_end, at_pre, set_pre, ty_pre, dTupRev, asS_tup, asS_lst, rz_end, rz_lst, mulT_tup, min3_eq, List.getElem?_cons_zero, List.getElem?_cons_succ, Option.some.injEq, exists_eq_left', exists_eq_left, exists_and_left, exists_and_right, and_assoc, D.int.injEq, D.bl.injEq, D.str.injEq, D.tup.injEq, D.lst.injEq, D.fz.injEq, D.ref.injEq, HB.lst.injEq, List.cons.injEq, and_true, true_and, List.set_cons_zero, List.set_cons_succ, List.map_cons, List.map_nil, List.length_cons, List.length_nil, Nat.reduceAdd, Nat.reduceSub, Nat.sub_self, Nat.zero_add, List.replicate_zero, List.replicate_succ, List.append_nil, List.cons_append, List.nil_append, decide_eq_true_eq, decide_eq_false_iff_not, Bool.not_eq_true', Bool.not_eq_false', Bool.true_eq_false, Bool.false_eq_true, false_implies, forall_const, true_implies, reduceCtorEq, and_false, false_and, Bool.not_true, Bool.not_false, if_true, if_false, isT_00, isT_01, isT_02, isT_03, isT_04, plB_0, isT_10, isT_11, isT_12, isT_13, isT_14, plB_1, isT_20, isT_21, isT_22, isT_23, isT_24, plB_2, isT_30, isT_31, isT_32, isT_33, isT_34, plB_3, isT_40, isT_41, isT_42, isT_43, isT_44, plB_4, isT_50, isT_51, isT_52, isT_53, isT_54, plB_5, isT_60, isT_61, isT_62, isT_63, isT_64, plB_6, plB_0, plB_1, plB_2, plB_3, plB_4, plB_5, plB_6, isi_00, isi_01, isi_02, isi_03, isi_04, isi_lt_0, isi_tl_0, isi_10, isi_11, isi_12, isi_13, isi_14, isi_lt_1, isi_tl_1, isi_20, isi_21, isi_22, isi_23, isi_24, isi_lt_2, isi_tl_2, isi_30, isi_31, isi_32, isi_33, isi_34, isi_lt_3, isi_tl_3, isi_40, isi_41, isi_42, isi_43, isi_44, isi_lt_4, isi_tl_4, isi_50, isi_51, isi_52, isi_53, isi_54, isi_lt_5, isi_tl_5, isi_60, isi_61, isi_62, isi_63, isi_64, isi_lt_6, isi_tl_6, isN_0, isN_1, isN_2, isN_3, isN_4, isN_5, isN_6, sizeLine_eq, Nat.reduceLeDiff, Nat.reduceLT, Nat.le_refl, Nat.zero_le, nats_len]
  refine ⟨fun _ => rt_keep q, fun hle => ?_⟩
  have hle' : (cloF row 41).length ≤ 40 := by omega
  have okd := du.bag ok hle'
  refine lc_mapT due (fun (n : Nat) => D.int (n : Nat)) (fun n => wrd (bitsN L n)) (fun _ => rfl) (by omega) (fun i hi acc R hz hA => ?_) ?_
  · simp only [sSeq, sNil, sIf, sRet, sRetN, sSet, sAsg, sExpr, sNever, sFor, sNox, sBrk, sCont, sFldD, sAug, sAugS, dVar, dC, dOp, dI0, dII, dNeg, dInv, dAndV, dOrV, dNotV, dTst, dTru, dAnd, dOr, dNot, dIfE, dChn, dCall, dCallK, dMake, aNil, aCons, dTup, dLst, dLstH, dFldC, dCB, dBM, tgN, tgSub, iL, iT, iR1, iR2, DEnds.xx, dLc, dLcH, dYes, dSl, oNon, oSome, nI2, nTup, nLst, nLstH, mApp, wipeD, dIn, dIsN, dNotN, dAddH, dMulH, iS, iEnS, iZipD, iZip3D, dIsB, dJoin, dRgT, dRgL, dRgH, dDNew, dDNewT, sDPutD, tru_bl, tru_int, add_int, add_tup, mul_int, len_tup, len_lst, len_fz, ne_int, eq_int, ne_bl, eq_bl, int_int, int_bl, ty_end, asL_lst, asL_fz, asS_tup, asS_lst, asS_fz, tgs_cons_eq, tgs_nil_eq, tg_tup_eq, tg_lst_eq, at_end, set_end, asS_end, asL_end, at_pre, set_pre, ty_pre, dTupRev, asS_tup, asS_lst, rz_end, rz_lst, mulT_tup, min3_eq, List.getElem?_cons_zero, List.getElem?_cons_succ, Option.some.injEq, exists_eq_left', exists_eq_left, exists_and_left, exists_and_right, and_assoc, D.int.injEq, D.bl.injEq, D.str.injEq, D.tup.injEq, D.lst.injEq, D.fz.injEq, D.ref.injEq, HB.lst.injEq, List.cons.injEq, and_true, true_and, List.set_cons_zero, List.set_cons_succ, List.map_cons, List.map_nil, List.length_cons, List.length_nil, Nat.reduceAdd, Nat.reduceSub, Nat.sub_self, Nat.zero_add, List.replicate_zero, List.replicate_succ, List.append_nil, List.cons_append, List.nil_append, decide_eq_true_eq, decide_eq_false_iff_not, Bool.not_eq_true', Bool.not_eq_false', Bool.true_eq_false, Bool.false_eq_true, false_implies, forall_const, true_implies, reduceCtorEq, and_false, false_and, Bool.not_true, Bool.not_false, if_true, if_false, isT_00, isT_01, isT_02, isT_03, isT_04, plB_0, isT_10, isT_11, isT_12, isT_13, isT_14, plB_1, isT_20, isT_21, isT_22, isT_23, isT_24, plB_2, isT_30, isT_31, isT_32, isT_33, isT_34, plB_3, isT_40, isT_41, isT_42, isT_43, isT_44, plB_4, isT_50, isT_51, isT_52, isT_53, isT_54, plB_5, isT_60, isT_61, isT_62, isT_63, isT_64, plB_6, plB_0, plB_1, plB_2, plB_3, plB_4, plB_5, plB_6, isi_00, isi_01, isi_02, isi_03, isi_04, isi_lt_0, isi_tl_0, isi_10, isi_11, isi_12, isi_13, isi_14, isi_lt_1, isi_tl_1, isi_20, isi_21, isi_22, isi_23, isi_24, isi_lt_2, isi_tl_2, isi_30, isi_31, isi_32, isi_33, isi_34, isi_lt_3, isi_tl_3, isi_40, isi_41, isi_42, isi_43, isi_44, isi_lt_4, isi_tl_4, isi_50, isi_51, isi_52, isi_53, isi_54, isi_lt_5, isi_tl_5, isi_60, isi_61, isi_62, isi_63, isi_64, isi_lt_6, isi_tl_6, isN_0, isN_1, isN_2, isN_3, isN_4, isN_5, isN_6, sizeLine_eq, Nat.reduceLeDiff, Nat.reduceLT, Nat.le_refl, Nat.zero_le, ct__law_word]
    exact ⟨due[i], rfl, L, rfl, ok.le, hz, hA⟩
  refine ⟨wsD L due, rfl, bw _ _ _, _, L, due, _, rfl, .inr rfl, at_end, okd, rfl, boD L due, [], by rw [set_end], ⟨trivial, bw _ _ _, trivial⟩, ?_⟩
  simp only [sSeq, sNil, sIf, sRet, sRetN, sSet, sAsg, sExpr, sNever, sFor, sNox, sBrk, sCont, sFldD, sAug, sAugS, dVar, dC, dOp, dI0, dII, dNeg, dInv, dAndV, dOrV, dNotV, dTst, dTru, dAnd, dOr, dNot, dIfE, dChn, dCall, dCallK, dMake, aNil, aCons, dTup, dLst, dLstH, dFldC, dCB, dBM, tgN, tgSub, iL, iT, iR1, iR2, DEnds.xx, dLc, dLcH, dYes, dSl, oNon, oSome, nI2, nTup, nLst, nLstH, mApp, wipeD, dIn, dIsN, dNotN, dAddH, dMulH, iS, iEnS, iZipD, iZip3D, dIsB, dJoin, dRgT, dRgL, dRgH, dDNew, dDNewT, sDPutD, tru_bl, tru_int, add_int, add_tup, mul_int, len_tup, len_lst, len_fz, ne_int, eq_int, ne_bl, eq_bl, int_int, int_bl, ty_end, asL_lst, asL_fz, asS_tup, asS_lst, asS_fz, tgs_cons_eq, tgs_nil_eq, tg_tup_eq, tg_lst_eq, at_end, set_end, asS_end, asL_end, at_pre, set_pre, ty_pre, dTupRev, asS_tup, asS_lst, rz_end, rz_lst, mulT_tup, min3_eq, List.getElem?_cons_zero, List.getElem?_cons_succ, Option.some.injEq, exists_eq_left', exists_eq_left, exists_and_left, exists_and_right, and_assoc, D.int.injEq, D.bl.injEq, D.str.injEq, D.tup.injEq, D.lst.injEq, D.fz.injEq, D.ref.injEq, HB.lst.injEq, List.cons.injEq, and_true, true_and, List.set_cons_zero, List.set_cons_succ, List.map_cons, List.map_nil, List.length_cons, List.length_nil, Nat.reduceAdd, Nat.reduceSub, Nat.sub_self, Nat.zero_add, List.replicate_zero, List.replicate_succ, List.append_nil, List.cons_append, List.nil_append, decide_eq_true_eq, decide_eq_false_iff_not, Bool.not_eq_true', Bool.not_eq_false', Bool.true_eq_false, Bool.false_eq_true, false_implies, forall_const, true_implies, reduceCtorEq, and_false, false_and, Bool.not_true, Bool.not_false, if_true, if_false, isT_00, isT_01, isT_02, isT_03, isT_04, plB_0, isT_10, isT_11, isT_12, isT_13, isT_14, plB_1, isT_20, isT_21, isT_22, isT_23, isT_24, plB_2, isT_30, isT_31, isT_32, isT_33, isT_34, plB_3, isT_40, isT_41, isT_42, isT_43, isT_44, plB_4, isT_50, isT_51, isT_52, isT_53, isT_54, plB_5, isT_60, isT_61, isT_62, isT_63, isT_64, plB_6, plB_0, plB_1, plB_2, plB_3, plB_4, plB_5, plB_6, isi_00, isi_01, isi_02, isi_03, isi_04, isi_lt_0, isi_tl_0, isi_10, isi_11, isi_12, isi_13, isi_14, isi_lt_1, isi_tl_1, isi_20, isi_21, isi_22, isi_23, isi_24, isi_lt_2, isi_tl_2, isi_30, isi_31, isi_32, isi_33, isi_34, isi_lt_3, isi_tl_3, isi_40, isi_41, isi_42, isi_43, isi_44, isi_lt_4, isi_tl_4, isi_50, isi_51, isi_52, isi_53, isi_54, isi_lt_5, isi_tl_5, isi_60, isi_61, isi_62, isi_63, isi_64, isi_lt_6, isi_tl_6, isN_0, isN_1, isN_2, isN_3, isN_4, isN_5, isN_6, sizeLine_eq, Nat.reduceLeDiff, Nat.reduceLT, Nat.le_refl, Nat.zero_le]
  refine ⟨L, due, due, rfl, okd, du.self hle', true, rfl, fun _ => ⟨rfl, L, row, rfl, ok, fun _ due' du' => ?_, fun z => absurd z (by omega)⟩, fun z => nomatch z⟩
  have e := due_uniq du' du
  subst e
  exact ⟨L, due', due', rfl, okd, du.self hle', rt_keep q⟩
theorem rd_A2 {h : DHp} {X : DX} {Q : DK} {L : Nat} {row due : List Nat} (ok : BagOk L row) (du : Due L row due) {s0 o5 o6 o7 : Option D} (q : Q (.bl true) h) :
    tb__law_asked_A2 (endsD h X Q) [s0, some (.int L), some (.lst (nats row)), some (.lst (nats due)), some (boO L row), o5, o6, o7] h := by
  obtain ⟨x, hx, gl⟩ : ∃ x ∈ row, atI (nats row) (-1) = some (.int (x : Nat)) := by
    have hp : 0 < row.length := List.length_pos_iff.mpr ok.ne
    refine ⟨row.getD (row.length - 1) 0, getD_mem (by omega), ?_⟩
    have e : (nats row)[row.length - 1]? = some (.int (row.getD (row.length - 1) 0 : Nat)) := by
      unfold nats
      rw [List.getElem?_map, List.getElem?_eq_getElem (show row.length - 1 < row.length by omega), List.getD_eq_getElem?_getD, List.getElem?_eq_getElem (show row.length - 1 < row.length by omega)]; rfl
    exact atI_last (by rw [nats_len]; omega) (by rw [nats_len]; exact e)
  simp only [tb__law_asked_A2, sSeq, sNil, sIf, sRet, sRetN, sSet, sAsg, sExpr, sNever, sFor, sNox, sBrk, sCont, sFldD, sAug, sAugS, dVar, dC, dOp, dI0, dII, dNeg, dInv, dAndV, dOrV, dNotV, dTst, dTru, dAnd, dOr, dNot, dIfE, dChn, dCall, dCallK, dMake, aNil, aCons, dTup, dLst, dLstH, dFldC, dCB, dBM, tgN, tgSub, iL, iT, iR1, iR2, DEnds.xx, dLc, dLcH, dYes, dSl, oNon, oSome, nI2, nTup, nLst, nLstH, mApp, wipeD, dIn, dIsN, dNotN, dAddH, dMulH, iS, iEnS, iZipD, iZip3D, dIsB, dJoin, dRgT, dRgL, dRgH, dDNew, dDNewT, sDPutD, tru_bl, tru_int, add_int, add_tup, mul_int, len_tup, len_lst, len_fz, ne_int, eq_int, ne_bl, eq_bl, int_int, int_bl, ty_end, asL_lst, asL_fz, asS_tup, asS_lst, asS_fz, tgs_cons_eq, tgs_nil_eq, tg_tup_eq, tg_lst_eq, at_end, set_end, asS_end, asL_end, at_pre, set_pre, ty_pre, dTupRev, asS_tup, asS_lst, rz_end, rz_lst, mulT_tup, min3_eq, List.getElem?_cons_zero, List.getElem?_cons_succ, Option.some.injEq, exists_eq_left', exists_eq_left, exists_and_left, exists_and_right, and_assoc, D.int.injEq, D.bl.injEq, D.str.injEq, D.tup.injEq, D.lst.injEq, D.fz.injEq, D.ref.injEq, HB.lst.injEq, List.cons.injEq, and_true, true_and, List.set_cons_zero, List.set_cons_succ, List.map_cons, List.map_nil, List.length_cons, List.length_nil, Nat.reduceAdd, Nat.reduceSub, Nat.sub_self, Nat.zero_add, List.replicate_zero, List.replicate_succ, List.append_nil, List.cons_append, List.nil_append, decide_eq_true_eq, decide_eq_false_iff_not, Bool.not_eq_true', Bool.not_eq_false', Bool.true_eq_false, Bool.false_eq_true, false_implies, forall_const, true_implies, reduceCtorEq, and_false, false_and, Bool.not_true, Bool.not_false, if_true, if_false, isT_00, isT_01, isT_02, isT_03, isT_04, plB_0, isT_10, isT_11, isT_12, isT_13, isT_14, plB_1, isT_20, isT_21, isT_22, isT_23, isT_24, plB_2, isT_30, isT_31, isT_32, isT_33, isT_34, plB_3, isT_40, isT_41, isT_42, isT_43, isT_44, plB_4, isT_50, isT_51, isT_52, isT_53, isT_54, plB_5, isT_60, isT_61, isT_62, isT_63, isT_64, plB_6, plB_0, plB_1, plB_2, plB_3, plB_4, plB_5, plB_6, isi_00, isi_01, isi_02, isi_03, isi_04, isi_lt_0, isi_tl_0, isi_10, isi_11, isi_12, isi_13, isi_14, isi_lt_1, isi_tl_1, isi_20, isi_21, isi_22, isi_23, isi_24, isi_lt_2, isi_tl_2, isi_30, isi_31, isi_32, isi_33, isi_34, isi_lt_3, isi_tl_3, isi_40, isi_41, isi_42, isi_43, isi_44, isi_lt_4, isi_tl_4, isi_50, isi_51, isi_52, isi_53, isi_54, isi_lt_5, isi_tl_5, isi_60, isi_61, isi_62, isi_63, isi_64, isi_lt_6, isi_tl_6, isN_0, isN_1, isN_2, isN_3, isN_4, isN_5, isN_6, sizeLine_eq, Nat.reduceLeDiff, Nat.reduceLT, Nat.le_refl, Nat.zero_le, ix_lst gl]
  have rx := ok.rn.lt x hx
  have few := ok.few
  have bag1 : BagOk L [x] := ⟨ok.le, (Due.one rx).rn, by simp, by simp⟩
  have one : ∀ {Q' : DK} {X' : DX}, Q' (.bl true) h → ct__law_right [boO L [x], .int L, .lst [.int x]] h X' Q' := fun q => ⟨L, [x], [x], rfl, bag1, Due.one rx, q⟩
  have all : ∀ {Q' : DK} {X' : DX}, Q' (.bl true) h → ct__law_right [boO L row, .int L, .lst (nats due)] h X' Q' := fun q => ⟨L, row, due, rfl, ok, du, q⟩
  refine ⟨x, L, rfl, ok.le, _, L, [x], _, rfl, .inl rfl, at_end, bag1, rfl, boD L [x], [], by rw [set_end], ⟨trivial, bw _ _ _, trivial⟩, ?_⟩
  refine all ⟨true, rfl, (fun z => nomatch z), fun _ => one ⟨true, rfl, (fun z => nomatch z), fun _ => all ⟨true, rfl, (fun z => nomatch z), fun _ => ?_⟩⟩⟩
  exact ⟨L, row, rfl, ok, true, rfl, (fun z => nomatch z), fun _ => rd_A3 ok du q⟩
theorem rd_A1 {h : DHp} {X : DX} {Q : DK} {L : Nat} {row : List Nat} (ok : BagOk L row) {s0 o3 o4 o5 o6 o7 : Option D} (q : Q (.bl true) h) :
    tb__law_asked_A1 (endsD h X Q) [s0, some (.int L), some (.lst (nats row)), o3, o4, o5, o6, o7] h := by
  simp only [tb__law_asked_A1, sSeq, sNil, sIf, sRet, sRetN, sSet, sAsg, sExpr, sNever, sFor, sNox, sBrk, sCont, sFldD, sAug, sAugS, dVar, dC, dOp, dI0, dII, dNeg, dInv, dAndV, dOrV, dNotV, dTst, dTru, dAnd, dOr, dNot, dIfE, dChn, dCall, dCallK, dMake, aNil, aCons, dTup, dLst, dLstH, dFldC, dCB, dBM, tgN, tgSub, iL, iT, iR1, iR2, DEnds.xx, dLc, dLcH, dYes, dSl, oNon, oSome, nI2, nTup, nLst, nLstH, mApp, wipeD, dIn, dIsN, dNotN, dAddH, dMulH, iS, iEnS, iZipD, iZip3D, dIsB, dJoin, dRgT, dRgL, dRgH, dDNew, dDNewT, sDPutD, tru_bl, tru_int, add_int, add_tup, mul_int, len_tup, len_lst, len_fz, ne_int, eq_int, ne_bl, eq_bl, int_int, int_bl, ty_end, asL_lst, asL_fz, asS_tup, asS_lst, asS_fz, tgs_cons_eq, tgs_nil_eq, tg_tup_eq, tg_lst_eq, at_end, set_end, asS_end, asL_end, at_pre, set_pre, ty_pre, dTupRev, asS_tup, asS_lst, rz_end, rz_lst, mulT_tup, min3_eq, List.getElem?_cons_zero, List.getElem?_cons_succ, Option.some.injEq, exists_eq_left', exists_eq_left, exists_and_left, exists_and_right, and_assoc, D.int.injEq, D.bl.injEq, D.str.injEq, D.tup.injEq, D.lst.injEq, D.fz.injEq, D.ref.injEq, HB.lst.injEq, List.cons.injEq, and_true, true_and, List.set_cons_zero, List.set_cons_succ, List.map_cons, List.map_nil, List.length_cons, List.length_nil, Nat.reduceAdd, Nat.reduceSub, Nat.sub_self, Nat.zero_add, List.replicate_zero, List.replicate_succ, List.append_nil, List.cons_append, List.nil_append, decide_eq_true_eq, decide_eq_false_iff_not, Bool.not_eq_true', Bool.not_eq_false', Bool.true_eq_false, Bool.false_eq_true, false_implies, forall_const, true_implies, reduceCtorEq, and_false, false_and, Bool.not_true, Bool.not_false, if_true, if_false, isT_00, isT_01, isT_02, isT_03, isT_04, plB_0, isT_10, isT_11, isT_12, isT_13, isT_14, plB_1, isT_20, isT_21, isT_22, isT_23, isT_24, plB_2, isT_30, isT_31, isT_32, isT_33, isT_34, plB_3, isT_40, isT_41, isT_42, isT_43, isT_44, plB_4, isT_50, isT_51, isT_52, isT_53, isT_54, plB_5, isT_60, isT_61, isT_62, isT_63, isT_64, plB_6, plB_0, plB_1, plB_2, plB_3, plB_4, plB_5, plB_6, isi_00, isi_01, isi_02, isi_03, isi_04, isi_lt_0, isi_tl_0, isi_10, isi_11, isi_12, isi_13, isi_14, isi_lt_1, isi_tl_1, isi_20, isi_21, isi_22, isi_23, isi_24, isi_lt_2, isi_tl_2, isi_30, isi_31, isi_32, isi_33, isi_34, isi_lt_3, isi_tl_3, isi_40, isi_41, isi_42, isi_43, isi_44, isi_lt_4, isi_tl_4, isi_50, isi_51, isi_52, isi_53, isi_54, isi_lt_5, isi_tl_5, isi_60, isi_61, isi_62, isi_63, isi_64, isi_lt_6, isi_tl_6, isN_0, isN_1, isN_2, isN_3, isN_4, isN_5, isN_6, sizeLine_eq, Nat.reduceLeDiff, Nat.reduceLT, Nat.le_refl, Nat.zero_le]
  refine ⟨L, row, rfl, ok, fun due du => ?_⟩
  simp only [sSeq, sNil, sIf, sRet, sRetN, sSet, sAsg, sExpr, sNever, sFor, sNox, sBrk, sCont, sFldD, sAug, sAugS, dVar, dC, dOp, dI0, dII, dNeg, dInv, dAndV, dOrV, dNotV, dTst, dTru, dAnd, dOr, dNot, dIfE, dChn, dCall, dCallK, dMake, aNil, aCons, dTup, dLst, dLstH, dFldC, dCB, dBM, tgN, tgSub, iL, iT, iR1, iR2, DEnds.xx, dLc, dLcH, dYes, dSl, oNon, oSome, nI2, nTup, nLst, nLstH, mApp, wipeD, dIn, dIsN, dNotN, dAddH, dMulH, iS, iEnS, iZipD, iZip3D, dIsB, dJoin, dRgT, dRgL, dRgH, dDNew, dDNewT, sDPutD, tru_bl, tru_int, add_int, add_tup, mul_int, len_tup, len_lst, len_fz, ne_int, eq_int, ne_bl, eq_bl, int_int, int_bl, ty_end, asL_lst, asL_fz, asS_tup, asS_lst, asS_fz, tgs_cons_eq, tgs_nil_eq, tg_tup_eq, tg_lst_eq, at_end, set_end, asS_end, asL_end, at_pre, set_pre, ty_pre, dTupRev, asS_tup, asS_lst, rz_end, rz_lst, mulT_tup, min3_eq, List.getElem?_cons_zero, List.getElem?_cons_succ, Option.some.injEq, exists_eq_left', exists_eq_left, exists_and_left, exists_and_right, and_assoc, D.int.injEq, D.bl.injEq, D.str.injEq, D.tup.injEq, D.lst.injEq, D.fz.injEq, D.ref.injEq, HB.lst.injEq, List.cons.injEq, and_true, true_and, List.set_cons_zero, List.set_cons_succ, List.map_cons, List.map_nil, List.length_cons, List.length_nil, Nat.reduceAdd, Nat.reduceSub, Nat.sub_self, Nat.zero_add, List.replicate_zero, List.replicate_succ, List.append_nil, List.cons_append, List.nil_append, decide_eq_true_eq, decide_eq_false_iff_not, Bool.not_eq_true', Bool.not_eq_false', Bool.true_eq_false, Bool.false_eq_true, false_implies, forall_const, true_implies, reduceCtorEq, and_false, false_and, Bool.not_true, Bool.not_false, if_true, if_false, isT_00, isT_01, isT_02, isT_03, isT_04, plB_0, isT_10, isT_11, isT_12, isT_13, isT_14, plB_1, isT_20, isT_21, isT_22, isT_23, isT_24, plB_2, isT_30, isT_31, isT_32, isT_33, isT_34, plB_3, isT_40, isT_41, isT_42, isT_43, isT_44, plB_4, isT_50, isT_51, isT_52, isT_53, isT_54, plB_5, isT_60, isT_61, isT_62, isT_63, isT_64, plB_6, plB_0, plB_1, plB_2, plB_3, plB_4, plB_5, plB_6, isi_00, isi_01, isi_02, isi_03, isi_04, isi_lt_0, isi_tl_0, isi_10, isi_11, isi_12, isi_13, isi_14, isi_lt_1, isi_tl_1, isi_20, isi_21, isi_22, isi_23, isi_24, isi_lt_2, isi_tl_2, isi_30, isi_31, isi_32, isi_33, isi_34, isi_lt_3, isi_tl_3, isi_40, isi_41, isi_42, isi_43, isi_44, isi_lt_4, isi_tl_4, isi_50, isi_51, isi_52, isi_53, isi_54, isi_lt_5, isi_tl_5, isi_60, isi_61, isi_62, isi_63, isi_64, isi_lt_6, isi_tl_6, isN_0, isN_1, isN_2, isN_3, isN_4, isN_5, isN_6, sizeLine_eq, Nat.reduceLeDiff, Nat.reduceLT, Nat.le_refl, Nat.zero_le]
  have few := ok.few
  refine lc_mapT row (fun (n : Nat) => D.int (n : Nat)) (fun n => wrd (bitsN L n)) (fun _ => rfl) (by omega) (fun i hi acc R hz hA => ?_) ?_
  · simp only [sSeq, sNil, sIf, sRet, sRetN, sSet, sAsg, sExpr, sNever, sFor, sNox, sBrk, sCont, sFldD, sAug, sAugS, dVar, dC, dOp, dI0, dII, dNeg, dInv, dAndV, dOrV, dNotV, dTst, dTru, dAnd, dOr, dNot, dIfE, dChn, dCall, dCallK, dMake, aNil, aCons, dTup, dLst, dLstH, dFldC, dCB, dBM, tgN, tgSub, iL, iT, iR1, iR2, DEnds.xx, dLc, dLcH, dYes, dSl, oNon, oSome, nI2, nTup, nLst, nLstH, mApp, wipeD, dIn, dIsN, dNotN, dAddH, dMulH, iS, iEnS, iZipD, iZip3D, dIsB, dJoin, dRgT, dRgL, dRgH, dDNew, dDNewT, sDPutD, tru_bl, tru_int, add_int, add_tup, mul_int, len_tup, len_lst, len_fz, ne_int, eq_int, ne_bl, eq_bl, int_int, int_bl, ty_end, asL_lst, asL_fz, asS_tup, asS_lst, asS_fz, tgs_cons_eq, tgs_nil_eq, tg_tup_eq, tg_lst_eq, at_end, set_end, asS_end, asL_end, at_pre, set_pre, ty_pre, dTupRev, asS_tup, asS_lst, rz_end, rz_lst, mulT_tup, min3_eq, List.getElem?_cons_zero, List.getElem?_cons_succ, Option.some.injEq, exists_eq_left', exists_eq_left, exists_and_left, exists_and_right, and_assoc, D.int.injEq, D.bl.injEq, D.str.injEq, D.tup.injEq, D.lst.injEq, D.fz.injEq, D.ref.injEq, HB.lst.injEq, List.cons.injEq, and_true, true_and, List.set_cons_zero, List.set_cons_succ, List.map_cons, List.map_nil, List.length_cons, List.length_nil, Nat.reduceAdd, Nat.reduceSub, Nat.sub_self, Nat.zero_add, List.replicate_zero, List.replicate_succ, List.append_nil, List.cons_append, List.nil_append, decide_eq_true_eq, decide_eq_false_iff_not, Bool.not_eq_true', Bool.not_eq_false', Bool.true_eq_false, Bool.false_eq_true, false_implies, forall_const, true_implies, reduceCtorEq, and_false, false_and, Bool.not_true, Bool.not_false, if_true, if_false, isT_00, isT_01, isT_02, isT_03, isT_04, plB_0, isT_10, isT_11, isT_12, isT_13, isT_14, plB_1, isT_20, isT_21, isT_22, isT_23, isT_24, plB_2, isT_30, isT_31, isT_32, isT_33, isT_34, plB_3, isT_40, isT_41, isT_42, isT_43, isT_44, plB_4, isT_50, isT_51, isT_52, isT_53, isT_54, plB_5, isT_60, isT_61, isT_62, isT_63, isT_64, plB_6, plB_0, plB_1, plB_2, plB_3, plB_4, plB_5, plB_6, isi_00, isi_01, isi_02, isi_03, isi_04, isi_lt_0, isi_tl_0, isi_10, isi_11, isi_12, isi_13, isi_14, isi_lt_1, isi_tl_1, isi_20, isi_21, isi_22, isi_23, isi_24, isi_lt_2, isi_tl_2, isi_30, isi_31, isi_32, isi_33, isi_34, isi_lt_3, isi_tl_3, isi_40, isi_41, isi_42, isi_43, isi_44, isi_lt_4, isi_tl_4, isi_50, isi_51, isi_52, isi_53, isi_54, isi_lt_5, isi_tl_5, isi_60, isi_61, isi_62, isi_63, isi_64, isi_lt_6, isi_tl_6, isN_0, isN_1, isN_2, isN_3, isN_4, isN_5, isN_6, sizeLine_eq, Nat.reduceLeDiff, Nat.reduceLT, Nat.le_refl, Nat.zero_le, ct__law_word]
    exact ⟨row[i], rfl, L, rfl, ok.le, hz, hA⟩
  exact ⟨wsD L row, rfl, bw _ _ _, _, L, row, _, rfl, .inl rfl, at_end, ok, rfl, boD L row, [], by rw [set_end], ⟨trivial, bw _ _ _, trivial⟩, rd_A2 ok du q⟩
theorem rd_law_asked (ds : List D) (h : DHp) (X : DX) (Q : DK) (hn : ds.length = 1) (c : ct__law_asked ds h X Q) : tb__law_asked (endsD h X Q) (startD N__law_asked.length ds) h := by
  obtain ⟨ns, rfl, hl, q⟩ := c
  simp only [tb__law_asked, startD, sSeq, sNil, sIf, sRet, sRetN, sSet, sAsg, sExpr, sNever, sFor, sNox, sBrk, sCont, sFldD, sAug, sAugS, dVar, dC, dOp, dI0, dII, dNeg, dInv, dAndV, dOrV, dNotV, dTst, dTru, dAnd, dOr, dNot, dIfE, dChn, dCall, dCallK, dMake, aNil, aCons, dTup, dLst, dLstH, dFldC, dCB, dBM, tgN, tgSub, iL, iT, iR1, iR2, DEnds.xx, dLc, dLcH, dYes, dSl, oNon, oSome, nI2, nTup, nLst, nLstH, mApp, wipeD, dIn, dIsN, dNotN, dAddH, dMulH, iS, iEnS, iZipD, iZip3D, dIsB, dJoin, dRgT, dRgL, dRgH, dDNew, dDNewT, sDPutD, tru_bl, tru_int, add_int, add_tup, mul_int, len_tup, len_lst, len_fz, ne_int, eq_int, ne_bl, eq_bl, int_int, int_bl, ty_end, asL_lst, asL_fz, asS_tup, asS_lst, asS_fz, tgs_cons_eq, tgs_nil_eq, tg_tup_eq, tg_lst_eq, at_end, set_end, asS_end, asL_end, at_pre, set_pre, ty_pre, dTupRev, asS_tup, asS_lst, rz_end, rz_lst, mulT_tup, min3_eq, List.getElem?_cons_zero, List.getElem?_cons_succ, Option.some.injEq, exists_eq_left', exists_eq_left, exists_and_left, exists_and_right, and_assoc, D.int.injEq, D.bl.injEq, D.str.injEq, D.tup.injEq, D.lst.injEq, D.fz.injEq, D.ref.injEq, HB.lst.injEq, List.cons.injEq, and_true, true_and, List.set_cons_zero, List.set_cons_succ, List.map_cons, List.map_nil, List.length_cons, List.length_nil, Nat.reduceAdd, Nat.reduceSub, Nat.sub_self, Nat.zero_add, List.replicate_zero, List.replicate_succ, List.append_nil, List.cons_append, List.nil_append, decide_eq_true_eq, decide_eq_false_iff_not, Bool.not_eq_true', Bool.not_eq_false', Bool.true_eq_false, Bool.false_eq_true, false_implies, forall_const, true_implies, reduceCtorEq, and_false, false_and, Bool.not_true, Bool.not_false, if_true, if_false, isT_00, isT_01, isT_02, isT_03, isT_04, plB_0, isT_10, isT_11, isT_12, isT_13, isT_14, plB_1, isT_20, isT_21, isT_22, isT_23, isT_24, plB_2, isT_30, isT_31, isT_32, isT_33, isT_34, plB_3, isT_40, isT_41, isT_42, isT_43, isT_44, plB_4, isT_50, isT_51, isT_52, isT_53, isT_54, plB_5, isT_60, isT_61, isT_62, isT_63, isT_64, plB_6, plB_0, plB_1, plB_2, plB_3, plB_4, plB_5, plB_6, isi_00, isi_01, isi_02, isi_03, isi_04, isi_lt_0, isi_tl_0, isi_10, isi_11, isi_12, isi_13, isi_14, isi_lt_1, isi_tl_1, isi_20, isi_21, isi_22, isi_23, isi_24, isi_lt_2, isi_tl_2, isi_30, isi_31, isi_32, isi_33, isi_34, isi_lt_3, isi_tl_3, isi_40, isi_41, isi_42, isi_43, isi_44, isi_lt_4, isi_tl_4, isi_50, isi_51, isi_52, isi_53, isi_54, isi_lt_5, isi_tl_5, isi_60, isi_61, isi_62, isi_63, isi_64, isi_lt_6, isi_tl_6, isN_0, isN_1, isN_2, isN_3, isN_4, isN_5, isN_6, sizeLine_eq, Nat.reduceLeDiff, Nat.reduceLT, Nat.le_refl, Nat.zero_le]
  refine ⟨ns, rfl, hl, fun L row ok => ?_⟩
  simp only [sSeq, sNil, sIf, sRet, sRetN, sSet, sAsg, sExpr, sNever, sFor, sNox, sBrk, sCont, sFldD, sAug, sAugS, dVar, dC, dOp, dI0, dII, dNeg, dInv, dAndV, dOrV, dNotV, dTst, dTru, dAnd, dOr, dNot, dIfE, dChn, dCall, dCallK, dMake, aNil, aCons, dTup, dLst, dLstH, dFldC, dCB, dBM, tgN, tgSub, iL, iT, iR1, iR2, DEnds.xx, dLc, dLcH, dYes, dSl, oNon, oSome, nI2, nTup, nLst, nLstH, mApp, wipeD, dIn, dIsN, dNotN, dAddH, dMulH, iS, iEnS, iZipD, iZip3D, dIsB, dJoin, dRgT, dRgL, dRgH, dDNew, dDNewT, sDPutD, tru_bl, tru_int, add_int, add_tup, mul_int, len_tup, len_lst, len_fz, ne_int, eq_int, ne_bl, eq_bl, int_int, int_bl, ty_end, asL_lst, asL_fz, asS_tup, asS_lst, asS_fz, tgs_cons_eq, tgs_nil_eq, tg_tup_eq, tg_lst_eq, at_end, set_end, asS_end, asL_end, at_pre, set_pre, ty_pre, dTupRev, asS_tup, asS_lst, rz_end, rz_lst, mulT_tup, min3_eq, List.getElem?_cons_zero, List.getElem?_cons_succ, Option.some.injEq, exists_eq_left', exists_eq_left, exists_and_left, exists_and_right, and_assoc, D.int.injEq, D.bl.injEq, D.str.injEq, D.tup.injEq, D.lst.injEq, D.fz.injEq, D.ref.injEq, HB.lst.injEq, List.cons.injEq, and_true, true_and, List.set_cons_zero, List.set_cons_succ, List.map_cons, List.map_nil, List.length_cons, List.length_nil, Nat.reduceAdd, Nat.reduceSub, Nat.sub_self, Nat.zero_add, List.replicate_zero, List.replicate_succ, List.append_nil, List.cons_append, List.nil_append, decide_eq_true_eq, decide_eq_false_iff_not, Bool.not_eq_true', Bool.not_eq_false', Bool.true_eq_false, Bool.false_eq_true, false_implies, forall_const, true_implies, reduceCtorEq, and_false, false_and, Bool.not_true, Bool.not_false, if_true, if_false, isT_00, isT_01, isT_02, isT_03, isT_04, plB_0, isT_10, isT_11, isT_12, isT_13, isT_14, plB_1, isT_20, isT_21, isT_22, isT_23, isT_24, plB_2, isT_30, isT_31, isT_32, isT_33, isT_34, plB_3, isT_40, isT_41, isT_42, isT_43, isT_44, plB_4, isT_50, isT_51, isT_52, isT_53, isT_54, plB_5, isT_60, isT_61, isT_62, isT_63, isT_64, plB_6, plB_0, plB_1, plB_2, plB_3, plB_4, plB_5, plB_6, isi_00, isi_01, isi_02, isi_03, isi_04, isi_lt_0, isi_tl_0, isi_10, isi_11, isi_12, isi_13, isi_14, isi_lt_1, isi_tl_1, isi_20, isi_21, isi_22, isi_23, isi_24, isi_lt_2, isi_tl_2, isi_30, isi_31, isi_32, isi_33, isi_34, isi_lt_3, isi_tl_3, isi_40, isi_41, isi_42, isi_43, isi_44, isi_lt_4, isi_tl_4, isi_50, isi_51, isi_52, isi_53, isi_54, isi_lt_5, isi_tl_5, isi_60, isi_61, isi_62, isi_63, isi_64, isi_lt_6, isi_tl_6, isN_0, isN_1, isN_2, isN_3, isN_4, isN_5, isN_6, sizeLine_eq, Nat.reduceLeDiff, Nat.reduceLT, Nat.le_refl, Nat.zero_le]
  exact rd_A1 ok q
theorem rd_law (ds : List D) (h : DHp) (X : DX) (Q : DK) (hn : ds.length = 1) (c : ct_law ds h X Q) : tb_law (endsD h X Q) (startD N_law.length ds) h := by
  obtain ⟨ns, rfl, hl, q⟩ := c
  simp only [tb_law, startD, sSeq, sNil, sIf, sRet, sRetN, sSet, sAsg, sExpr, sNever, sFor, sNox, sBrk, sCont, sFldD, sAug, sAugS, dVar, dC, dOp, dI0, dII, dNeg, dInv, dAndV, dOrV, dNotV, dTst, dTru, dAnd, dOr, dNot, dIfE, dChn, dCall, dCallK, dMake, aNil, aCons, dTup, dLst, dLstH, dFldC, dCB, dBM, tgN, tgSub, iL, iT, iR1, iR2, DEnds.xx, dLc, dLcH, dYes, dSl, oNon, oSome, nI2, nTup, nLst, nLstH, mApp, wipeD, dIn, dIsN, dNotN, dAddH, dMulH, iS, iEnS, iZipD, iZip3D, dIsB, dJoin, dRgT, dRgL, dRgH, dDNew, dDNewT, sDPutD, tru_bl, tru_int, add_int, add_tup, mul_int, len_tup, len_lst, len_fz, ne_int, eq_int, ne_bl, eq_bl, int_int, int_bl, ty_end, asL_lst, asL_fz, asS_tup, asS_lst, asS_fz, tgs_cons_eq, tgs_nil_eq, tg_tup_eq, tg_lst_eq, at_end, set_end, asS_end, asL_end, at_pre, set_pre, ty_pre, dTupRev, asS_tup, asS_lst, rz_end, rz_lst, mulT_tup, min3_eq, List.getElem?_cons_zero, List.getElem?_cons_succ, Option.some.injEq, exists_eq_left', exists_eq_left, exists_and_left, exists_and_right, and_assoc, D.int.injEq, D.bl.injEq, D.str.injEq, D.tup.injEq, D.lst.injEq, D.fz.injEq, D.ref.injEq, HB.lst.injEq, List.cons.injEq, and_true, true_and, List.set_cons_zero, List.set_cons_succ, List.map_cons, List.map_nil, List.length_cons, List.length_nil, Nat.reduceAdd, Nat.reduceSub, Nat.sub_self, Nat.zero_add, List.replicate_zero, List.replicate_succ, List.append_nil, List.cons_append, List.nil_append, decide_eq_true_eq, decide_eq_false_iff_not, Bool.not_eq_true', Bool.not_eq_false', Bool.true_eq_false, Bool.false_eq_true, false_implies, forall_const, true_implies, reduceCtorEq, and_false, false_and, Bool.not_true, Bool.not_false, if_true, if_false]
  exact ⟨ns, rfl, hl, rt_keep q⟩
end L2.MW.K34

namespace L2.MW.K34
open PySem PySem.Spec PyProof.Rows L2 L2.MW
def d_is_integer : He.DefD := ⟨("is_integer", none), "is_integer", "is_integer", defArgs s_is_integer, defBody s_is_integer, defScope s_is_integer, [], []⟩
def d_is_between : He.DefD := ⟨("is_between", none), "is_between", "is_between", defArgs s_is_between, defBody s_is_between, defScope s_is_between, [], []⟩
def d_is_bit : He.DefD := ⟨("is_bit", none), "is_bit", "is_bit", defArgs s_is_bit, defBody s_is_bit, defScope s_is_bit, [], []⟩
def d_is_word : He.DefD := ⟨("is_word", none), "is_word", "is_word", defArgs s_is_word, defBody s_is_word, defScope s_is_word, [], []⟩
def d_Words_init : He.DefD := ⟨("Words", some "__init__"), "__init__", "Words.__init__", defArgs s_Words_init, defBody s_Words_init, defScope s_Words_init, [], []⟩
def d_number_of_word : He.DefD := ⟨("number_of_word", none), "number_of_word", "number_of_word", defArgs s_number_of_word, defBody s_number_of_word, defScope s_number_of_word, [], []⟩
def d_word_of_number : He.DefD := ⟨("word_of_number", none), "word_of_number", "word_of_number", defArgs s_word_of_number, defBody s_word_of_number, defScope s_word_of_number, [], []⟩
def d_numbers_of : He.DefD := ⟨("numbers_of", none), "numbers_of", "numbers_of", defArgs s_numbers_of, defBody s_numbers_of, defScope s_numbers_of, [], []⟩
def d_majorities_with : He.DefD := ⟨("majorities_with", none), "majorities_with", "majorities_with", defArgs s_majorities_with, defBody s_majorities_with, defScope s_majorities_with, [], []⟩
def d_closed : He.DefD := ⟨("closed", none), "closed", "closed", defArgs s_closed, defBody s_closed, defScope s_closed, [], []⟩
def d__law_cell : He.DefD := ⟨("_law_cell", none), "_law_cell", "_law_cell", defArgs s__law_cell, defBody s__law_cell, defScope s__law_cell, [], []⟩
def d__law_row : He.DefD := ⟨("_law_row", none), "_law_row", "_law_row", defArgs s__law_row, defBody s__law_row, defScope s__law_row, [], []⟩
def d__law_word : He.DefD := ⟨("_law_word", none), "_law_word", "_law_word", defArgs s__law_word, defBody s__law_word, defScope s__law_word, [], []⟩
def d__law_drawn : He.DefD := ⟨("_law_drawn", none), "_law_drawn", "_law_drawn", defArgs s__law_drawn, defBody s__law_drawn, defScope s__law_drawn, [], []⟩
def d__law_majority : He.DefD := ⟨("_law_majority", none), "_law_majority", "_law_majority", defArgs s__law_majority, defBody s__law_majority, defScope s__law_majority, [], []⟩
def d__law_closure : He.DefD := ⟨("_law_closure", none), "_law_closure", "_law_closure", defArgs s__law_closure, defBody s__law_closure, defScope s__law_closure, [], []⟩
def d__law_axes : He.DefD := ⟨("_law_axes", none), "_law_axes", "_law_axes", defArgs s__law_axes, defBody s__law_axes, defScope s__law_axes, [], []⟩
def d__law_mixed : He.DefD := ⟨("_law_mixed", none), "_law_mixed", "_law_mixed", defArgs s__law_mixed, defBody s__law_mixed, defScope s__law_mixed, [], []⟩
def d__law_bag : He.DefD := ⟨("_law_bag", none), "_law_bag", "_law_bag", defArgs s__law_bag, defBody s__law_bag, defScope s__law_bag, [], []⟩
def d__law_told : He.DefD := ⟨("_law_told", none), "_law_told", "_law_told", defArgs s__law_told, defBody s__law_told, defScope s__law_told, [], []⟩
def d__law_plain : He.DefD := ⟨("_law_plain", none), "_law_plain", "_law_plain", defArgs s__law_plain, defBody s__law_plain, defScope s__law_plain, [], []⟩
def d__law_right : He.DefD := ⟨("_law_right", none), "_law_right", "_law_right", defArgs s__law_right, defBody s__law_right, defScope s__law_right, [], []⟩
def d__law_asked : He.DefD := ⟨("_law_asked", none), "_law_asked", "_law_asked", defArgs s__law_asked, defBody s__law_asked, defScope s__law_asked, [], []⟩
def d_law : He.DefD := ⟨("law", none), "law", "law", defArgs s_law, defBody s_law, defScope s_law, [], []⟩
abbrev s_TooLarge_init : Stmt := mem (top 4) 0
abbrev N_TooLarge_init : List Str := ["self", "what"]
theorem sc_TooLarge_init : FnScope N_TooLarge_init N_TooLarge_init (defScope s_TooLarge_init) := ⟨rfl, rfl, rfl, by decide +kernel, rfl, by decide +kernel, by decide +kernel⟩
theorem xi_TooLarge {P : Program} {w : World} {K : PySem.W.Frag} {mg : Str → Option Value} {base : Heap} {f : Addr} {fd : FuncData} (F : FunD K "__init__" "TooLarge.__init__" (defArgs s_TooLarge_init) (defBody s_TooLarge_init) (defScope s_TooLarge_init) [] [] f fd) (xf : XF K "TooLarge" xf_TooLarge) :
    FnOk P w K mg base CX0 1 f fd N_TooLarge_init (spX 1 xf_TooLarge (He.ga K (Str.ofString "TooLarge"))) := by
  refine F.ok sc_TooLarge_init (fun vs H Q E h => ?_) (fun cdv A outer s H vs Q E hr h => ⟨_, PSs.nox (pss_one (ps_ost (pe_var (i := 0) rfl (Or.inl rfl)) (pe_var (i := 1) rfl (Or.inl rfl)))), x1_read xf.parts.1 xf.parts.2.2.1 h⟩)
  obtain ⟨a, us, rfl, hl, _⟩ := h
  show us.length + 1 = 2
  omega
def d_TooLarge_init : He.DefD := ⟨("TooLarge", some "__init__"), "__init__", "TooLarge.__init__", defArgs s_TooLarge_init, defBody s_TooLarge_init, defScope s_TooLarge_init, [], []⟩
def fnL : List He.DefD := [d_is_integer, d_is_between, d_is_bit, d_is_word, d_Words_init, d_number_of_word, d_word_of_number, d_numbers_of, d_majorities_with, d_closed, d__law_cell, d__law_row, d__law_word, d__law_drawn, d__law_majority, d__law_closure, d__law_axes, d__law_mixed, d__law_bag, d__law_told, d__law_plain, d__law_right, d__law_asked, d_law, d_TooLarge_init]
def chk (K : PySem.W.Frag) : Bool := exmB K xtb && (kitEB K xkt && (xnB K (clss xtb) "what" && (xfB K "TooLarge" xf_TooLarge && (kitFB K kcs))))
def faL : List He.Fa := [.glo "is_integer", .glo "is_between", .glo "is_bit", .glo "is_word", .glo "number_of_word", .glo "word_of_number", .glo "numbers_of", .glo "majorities_with", .glo "closed", .glo "_law_cell", .glo "_law_row", .glo "_law_word", .glo "_law_drawn", .glo "_law_majority", .glo "_law_closure", .glo "_law_axes", .glo "_law_mixed", .glo "_law_bag", .glo "_law_told", .glo "_law_plain", .glo "_law_right", .glo "_law_asked", .glo "law", .glo "Words", .mkr "Words", .glo "TooLarge", .glo "Undefined", .glo "MiddleError", .free "ValueError", .free "all", .free "bool", .free "enumerate", .free "int", .free "isinstance", .free "len", .free "list", .free "max", .free "min", .free "range", .free "set", .free "sorted", .free "str", .free "tuple", .int "MOST_LETTERS" 39, .int "MOST_WORDS" 40, .cls "Words", .noat "Words" "length", .noat "Words" "words"]
abbrev R : PySem.W.OpenRow := PySem.W.OpenLaw.row PySem.Challenge.rw_middlewebs_k34_whole_closure
abbrev hk : PySem.W.Hook := hookM chk 4 faL fnL
def ob (s : PySem.W.SharedT) : He.AlD := obsMG chk 4 faL fnL (HandSHeadRun.getT s)
theorem ob_eq (s : PySem.W.SharedT) : ob s = hk.obs s.abs := obsMG_eq (HandSHeadRun.getT_eq s)
def names0 : List Str := ["__name__", "MiddleError", "InvalidWords", "Undefined", "TooLarge", "is_integer", "is_between", "is_bit", "is_word", "MOST_LETTERS", "MOST_WORDS", "Words", "number_of_word", "word_of_number", "numbers_of", "majorities_with", "closed", "_law_cell", "_law_row", "_law_word"]
def names1 : List Str := ["_law_drawn", "_law_majority", "_law_closure", "_law_axes", "_law_mixed", "_law_bag", "_law_told", "_law_plain", "_law_right", "_law_asked"]
def names : List Str := names0 ++ names1
theorem run (w : World) : HandSHeadRun.RunEq R (PySem.W.view R.prog [33]) hk ob 5000 names w := by
  intro os
  kernel_rfl
theorem facts {P : Program} {w : World} {K : PySem.W.Frag} {h : Heap} {mg : Str → Option Value} {f : Addr} (X : K.In h) (Gn : h.Ns mainGlobals mg) (hfa : mg ("law" : Str) = some (.ref f)) (c : SaysM chk faL fnL K) :
    ∃ fd : FuncData, (∀ (s : Shared) (v : Value), BindsTo s fd ⟨[v], []⟩ [("script", v)]) ∧ ∀ base : Heap, FnOk P w K mg base (L2N.CX P w) 11 f fd ["script"] (spOf K 1 ct_law) := by
  obtain ⟨hc, c⟩ := c.both
  unfold chk at hc
  simp only [Bool.and_eq_true] at hc
  obtain ⟨hc0, hc1, hc2, hc3, hc4⟩ := hc
  have G : Gm K mg := ⟨He.free_ok X Gn (c.fact 28 (f := .free "ValueError") rfl),
    He.free_ok X Gn (c.fact 29 (f := .free "all") rfl),
    He.free_ok X Gn (c.fact 30 (f := .free "bool") rfl),
    He.free_ok X Gn (c.fact 31 (f := .free "enumerate") rfl),
    He.free_ok X Gn (c.fact 32 (f := .free "int") rfl),
    He.free_ok X Gn (c.fact 33 (f := .free "isinstance") rfl),
    He.free_ok X Gn (c.fact 34 (f := .free "len") rfl),
    He.free_ok X Gn (c.fact 35 (f := .free "list") rfl),
    He.free_ok X Gn (c.fact 36 (f := .free "max") rfl),
    He.free_ok X Gn (c.fact 37 (f := .free "min") rfl),
    He.free_ok X Gn (c.fact 38 (f := .free "range") rfl),
    He.free_ok X Gn (c.fact 39 (f := .free "set") rfl),
    He.free_ok X Gn (c.fact 40 (f := .free "sorted") rfl),
    He.free_ok X Gn (c.fact 41 (f := .free "str") rfl),
    He.free_ok X Gn (c.fact 42 (f := .free "tuple") rfl),
    He.int_ok X Gn (c.fact 43 (f := .int "MOST_LETTERS" 39) rfl),
    He.int_ok X Gn (c.fact 44 (f := .int "MOST_WORDS" 40) rfl),
    (fun c' hc => by
      simp only [fc_length, List.mem_cons, List.not_mem_nil, or_false] at hc
      subst hc
      exact ⟨He.cls_ok (c.fact 45 (f := .cls "Words") rfl), He.noat_ok (c.fact 46 (f := .noat "Words" "length") rfl)⟩),
    (fun c' hc => by
      simp only [fc_words, List.mem_cons, List.not_mem_nil, or_false] at hc
      subst hc
      exact ⟨He.cls_ok (c.fact 45 (f := .cls "Words") rfl), He.noat_ok (c.fact 47 (f := .noat "Words" "words") rfl)⟩),
    exmB_ok hc0,
    kitEB_ok hc1,
    xnB_ok hc2,
    ⟨hc4⟩,
    He.glo_ok X Gn (c.fact 23 (f := .glo "Words") rfl),
    He.glo_ok X Gn (c.fact 25 (f := .glo "TooLarge") rfl),
    He.glo_ok X Gn (c.fact 26 (f := .glo "Undefined") rfl),
    He.glo_ok X Gn (c.fact 27 (f := .glo "MiddleError") rfl)⟩
  obtain ⟨fd_is_integer, D_is_integer⟩ := c.def_ 0 (d := d_is_integer) rfl
  obtain ⟨fd_is_between, D_is_between⟩ := c.def_ 1 (d := d_is_between) rfl
  obtain ⟨fd_is_bit, D_is_bit⟩ := c.def_ 2 (d := d_is_bit) rfl
  obtain ⟨fd_is_word, D_is_word⟩ := c.def_ 3 (d := d_is_word) rfl
  obtain ⟨fd_Words_init, D_Words_init⟩ := c.def_ 4 (d := d_Words_init) rfl
  obtain ⟨fd_number_of_word, D_number_of_word⟩ := c.def_ 5 (d := d_number_of_word) rfl
  obtain ⟨fd_word_of_number, D_word_of_number⟩ := c.def_ 6 (d := d_word_of_number) rfl
  obtain ⟨fd_numbers_of, D_numbers_of⟩ := c.def_ 7 (d := d_numbers_of) rfl
  obtain ⟨fd_majorities_with, D_majorities_with⟩ := c.def_ 8 (d := d_majorities_with) rfl
  obtain ⟨fd_closed, D_closed⟩ := c.def_ 9 (d := d_closed) rfl
  obtain ⟨fd__law_cell, D__law_cell⟩ := c.def_ 10 (d := d__law_cell) rfl
  obtain ⟨fd__law_row, D__law_row⟩ := c.def_ 11 (d := d__law_row) rfl
  obtain ⟨fd__law_word, D__law_word⟩ := c.def_ 12 (d := d__law_word) rfl
  obtain ⟨fd__law_drawn, D__law_drawn⟩ := c.def_ 13 (d := d__law_drawn) rfl
  obtain ⟨fd__law_majority, D__law_majority⟩ := c.def_ 14 (d := d__law_majority) rfl
  obtain ⟨fd__law_closure, D__law_closure⟩ := c.def_ 15 (d := d__law_closure) rfl
  obtain ⟨fd__law_axes, D__law_axes⟩ := c.def_ 16 (d := d__law_axes) rfl
  obtain ⟨fd__law_mixed, D__law_mixed⟩ := c.def_ 17 (d := d__law_mixed) rfl
  obtain ⟨fd__law_bag, D__law_bag⟩ := c.def_ 18 (d := d__law_bag) rfl
  obtain ⟨fd__law_told, D__law_told⟩ := c.def_ 19 (d := d__law_told) rfl
  obtain ⟨fd__law_plain, D__law_plain⟩ := c.def_ 20 (d := d__law_plain) rfl
  obtain ⟨fd__law_right, D__law_right⟩ := c.def_ 21 (d := d__law_right) rfl
  obtain ⟨fd__law_asked, D__law_asked⟩ := c.def_ 22 (d := d__law_asked) rfl
  obtain ⟨fd_law, D_law⟩ := c.def_ 23 (d := d_law) rfl
  obtain ⟨fd_TooLarge_init, D_TooLarge_init⟩ := c.def_ 24 (d := d_TooLarge_init) rfl
  have xf_TooLarge' : XF K "TooLarge" xf_TooLarge := ⟨hc3⟩
  have X_TooLarge : ∀ base : Heap, ExK P w K mg base "TooLarge" xf_TooLarge := fun base => ⟨⟨fd_TooLarge_init, N_TooLarge_init, xi_TooLarge D_TooLarge_init xf_TooLarge', D_TooLarge_init.bindsN (fun _ _ _ _ _ _ us hl => match us, hl with | [_, _], _ => rfl), He.glo_ok X Gn (c.fact 25 (f := .glo "TooLarge") rfl)⟩, xf_TooLarge'⟩
  have e := hfa.symm.trans (He.glo_ok X Gn (c.fact 22 (f := .glo "law") rfl))
  cases e
  refine ⟨fd_law, fun s v => FunD.bindsA (ps := ["script"]) D_law (fun _ _ _ _ _ _ us hl => match us, hl with | [_], _ => rfl) s [v] rfl, fun base => ?_⟩
  have X_TooLarge := X_TooLarge base
  have O_is_integer : FnOk P w K mg base (L2N.CX P w) 1 _ fd_is_integer P_is_integer (spOf K 1 ct_is_integer) := fn_ok D_is_integer sc_is_integer (bd_is_integer G ) rd_is_integer
  have F_is_integer : FnC P w K mg base 1 "is_integer" 1 ct_is_integer := ⟨_, fd_is_integer, P_is_integer, rfl, O_is_integer, He.glo_ok X Gn (c.fact 0 (f := .glo "is_integer") rfl), D_is_integer.kp, D_is_integer.bindsN (fun _ _ _ _ _ _ us hl => match us, hl with | [_], _ => rfl)⟩
  have O_is_between : FnOk P w K mg base (L2N.CX P w) 2 _ fd_is_between P_is_between (spOf K 3 ct_is_between) := fn_ok D_is_between sc_is_between (bd_is_between G F_is_integer) rd_is_between
  have F_is_between : FnC P w K mg base 2 "is_between" 3 ct_is_between := ⟨_, fd_is_between, P_is_between, rfl, O_is_between, He.glo_ok X Gn (c.fact 1 (f := .glo "is_between") rfl), D_is_between.kp, D_is_between.bindsN (fun _ _ _ _ _ _ us hl => match us, hl with | [_, _, _], _ => rfl)⟩
  have O_is_bit : FnOk P w K mg base (L2N.CX P w) 3 _ fd_is_bit P_is_bit (spOf K 1 ct_is_bit) := fn_ok D_is_bit sc_is_bit (bd_is_bit G F_is_between) rd_is_bit
  have F_is_bit : FnC P w K mg base 3 "is_bit" 1 ct_is_bit := ⟨_, fd_is_bit, P_is_bit, rfl, O_is_bit, He.glo_ok X Gn (c.fact 2 (f := .glo "is_bit") rfl), D_is_bit.kp, D_is_bit.bindsN (fun _ _ _ _ _ _ us hl => match us, hl with | [_], _ => rfl)⟩
  have O_is_word : FnOk P w K mg base (L2N.CX P w) 4 _ fd_is_word P_is_word (spOf K 2 ct_is_word) := fn_ok D_is_word sc_is_word (bd_is_word G F_is_bit) rd_is_word
  have F_is_word : FnC P w K mg base 4 "is_word" 2 ct_is_word := ⟨_, fd_is_word, P_is_word, rfl, O_is_word, He.glo_ok X Gn (c.fact 3 (f := .glo "is_word") rfl), D_is_word.kp, D_is_word.bindsN (fun _ _ _ _ _ _ us hl => match us, hl with | [_, _], _ => rfl)⟩
  have O_Words_init : FnOk P w K mg base (L2N.CX P w) 5 _ fd_Words_init P_Words_init (spOf K 3 ct_Words_init) := fn_ok D_Words_init sc_Words_init (bd_Words_init G F_is_between F_is_word) rd_Words_init
  have M_Words : MkC P w K mg base 5 "Words" 3 ct_Words_init := ⟨_, fd_Words_init, P_Words_init, rfl, He.mkr_ok (c.fact 24 (f := .mkr "Words") rfl), O_Words_init, He.glo_ok X Gn (c.fact 23 (f := .glo "Words") rfl), D_Words_init.bindsN (fun _ _ _ _ _ _ us hl => match us, hl with | [_, _, _], _ => rfl)⟩
  have O_number_of_word : FnOk P w K mg base (L2N.CX P w) 1 _ fd_number_of_word P_number_of_word (spOf K 1 ct_number_of_word) := fn_ok D_number_of_word sc_number_of_word (bd_number_of_word G ) rd_number_of_word
  have F_number_of_word : FnC P w K mg base 1 "number_of_word" 1 ct_number_of_word := ⟨_, fd_number_of_word, P_number_of_word, rfl, O_number_of_word, He.glo_ok X Gn (c.fact 4 (f := .glo "number_of_word") rfl), D_number_of_word.kp, D_number_of_word.bindsN (fun _ _ _ _ _ _ us hl => match us, hl with | [_], _ => rfl)⟩
  have O_word_of_number : FnOk P w K mg base (L2N.CX P w) 1 _ fd_word_of_number P_word_of_number (spOf K 2 ct_word_of_number) := fn_ok D_word_of_number sc_word_of_number (bd_word_of_number G ) rd_word_of_number
  have F_word_of_number : FnC P w K mg base 1 "word_of_number" 2 ct_word_of_number := ⟨_, fd_word_of_number, P_word_of_number, rfl, O_word_of_number, He.glo_ok X Gn (c.fact 5 (f := .glo "word_of_number") rfl), D_word_of_number.kp, D_word_of_number.bindsN (fun _ _ _ _ _ _ us hl => match us, hl with | [_, _], _ => rfl)⟩
  have O_numbers_of : FnOk P w K mg base (L2N.CX P w) 2 _ fd_numbers_of P_numbers_of (spOf K 1 ct_numbers_of) := fn_ok D_numbers_of sc_numbers_of (bd_numbers_of G F_number_of_word) rd_numbers_of
  have F_numbers_of : FnC P w K mg base 2 "numbers_of" 1 ct_numbers_of := ⟨_, fd_numbers_of, P_numbers_of, rfl, O_numbers_of, He.glo_ok X Gn (c.fact 6 (f := .glo "numbers_of") rfl), D_numbers_of.kp, D_numbers_of.bindsN (fun _ _ _ _ _ _ us hl => match us, hl with | [_], _ => rfl)⟩
  have O_majorities_with : FnOk P w K mg base (L2N.CX P w) 1 _ fd_majorities_with P_majorities_with (spOf K 2 ct_majorities_with) := fn_ok D_majorities_with sc_majorities_with (bd_majorities_with G ) rd_majorities_with
  have F_majorities_with : FnC P w K mg base 1 "majorities_with" 2 ct_majorities_with := ⟨_, fd_majorities_with, P_majorities_with, rfl, O_majorities_with, He.glo_ok X Gn (c.fact 7 (f := .glo "majorities_with") rfl), D_majorities_with.kp, D_majorities_with.bindsN (fun _ _ _ _ _ _ us hl => match us, hl with | [_, _], _ => rfl)⟩
  have O_closed : FnOk P w K mg base (L2N.CX P w) 7 _ fd_closed P_closed (spOf K 1 ct_closed) := fn_ok D_closed sc_closed (bd_closed G M_Words F_majorities_with F_numbers_of F_word_of_number X_TooLarge) rd_closed
  have F_closed : FnC P w K mg base 7 "closed" 1 ct_closed := ⟨_, fd_closed, P_closed, rfl, O_closed, He.glo_ok X Gn (c.fact 8 (f := .glo "closed") rfl), D_closed.kp, D_closed.bindsN (fun _ _ _ _ _ _ us hl => match us, hl with | [_], _ => rfl)⟩
  have K_closed : FnK P w K mg base 7 "closed" 1 ["words"] [0] ct_closed := ⟨_, fd_closed, P_closed, rfl, O_closed, He.glo_ok X Gn (c.fact 8 (f := .glo "closed") rfl), D_closed.kp, fun s ws _ hl => bindsK D_closed s (match ws, hl with | [_], _ => fun _ _ _ _ _ _ => rfl)⟩
  have O__law_cell : FnOk P w K mg base (L2N.CX P w) 1 _ fd__law_cell P__law_cell (spOf K 2 ct__law_cell) := fn_ok D__law_cell sc__law_cell (bd__law_cell G ) rd_law_cell
  have F__law_cell : FnC P w K mg base 1 "_law_cell" 2 ct__law_cell := ⟨_, fd__law_cell, P__law_cell, rfl, O__law_cell, He.glo_ok X Gn (c.fact 9 (f := .glo "_law_cell") rfl), D__law_cell.kp, D__law_cell.bindsN (fun _ _ _ _ _ _ us hl => match us, hl with | [_, _], _ => rfl)⟩
  have O__law_row : FnOk P w K mg base (L2N.CX P w) 2 _ fd__law_row P__law_row (spOf K 4 ct__law_row) := fn_ok D__law_row sc__law_row (bd__law_row G F__law_cell) rd_law_row
  have F__law_row : FnC P w K mg base 2 "_law_row" 4 ct__law_row := ⟨_, fd__law_row, P__law_row, rfl, O__law_row, He.glo_ok X Gn (c.fact 10 (f := .glo "_law_row") rfl), D__law_row.kp, D__law_row.bindsN (fun _ _ _ _ _ _ us hl => match us, hl with | [_, _, _, _], _ => rfl)⟩
  have O__law_word : FnOk P w K mg base (L2N.CX P w) 1 _ fd__law_word P__law_word (spOf K 2 ct__law_word) := fn_ok D__law_word sc__law_word (bd__law_word G ) rd_law_word
  have F__law_word : FnC P w K mg base 1 "_law_word" 2 ct__law_word := ⟨_, fd__law_word, P__law_word, rfl, O__law_word, He.glo_ok X Gn (c.fact 11 (f := .glo "_law_word") rfl), D__law_word.kp, D__law_word.bindsN (fun _ _ _ _ _ _ us hl => match us, hl with | [_, _], _ => rfl)⟩
  have O__law_drawn : FnOk P w K mg base (L2N.CX P w) 3 _ fd__law_drawn P__law_drawn (spOf K 4 ct__law_drawn) := fn_ok D__law_drawn sc__law_drawn (bd__law_drawn G F__law_row) rd_law_drawn
  have F__law_drawn : FnC P w K mg base 3 "_law_drawn" 4 ct__law_drawn := ⟨_, fd__law_drawn, P__law_drawn, rfl, O__law_drawn, He.glo_ok X Gn (c.fact 12 (f := .glo "_law_drawn") rfl), D__law_drawn.kp, D__law_drawn.bindsN (fun _ _ _ _ _ _ us hl => match us, hl with | [_, _, _, _], _ => rfl)⟩
  have O__law_majority : FnOk P w K mg base (L2N.CX P w) 1 _ fd__law_majority P__law_majority (spOf K 3 ct__law_majority) := fn_ok D__law_majority sc__law_majority (bd__law_majority G ) rd_law_majority
  have F__law_majority : FnC P w K mg base 1 "_law_majority" 3 ct__law_majority := ⟨_, fd__law_majority, P__law_majority, rfl, O__law_majority, He.glo_ok X Gn (c.fact 13 (f := .glo "_law_majority") rfl), D__law_majority.kp, D__law_majority.bindsN (fun _ _ _ _ _ _ us hl => match us, hl with | [_, _, _], _ => rfl)⟩
  have O__law_closure : FnOk P w K mg base (L2N.CX P w) 2 _ fd__law_closure P__law_closure (spOf K 2 ct__law_closure) := fn_ok D__law_closure sc__law_closure (bd__law_closure G F__law_majority) rd_law_closure
  have F__law_closure : FnC P w K mg base 2 "_law_closure" 2 ct__law_closure := ⟨_, fd__law_closure, P__law_closure, rfl, O__law_closure, He.glo_ok X Gn (c.fact 14 (f := .glo "_law_closure") rfl), D__law_closure.kp, D__law_closure.bindsN (fun _ _ _ _ _ _ us hl => match us, hl with | [_, _], _ => rfl)⟩
  have O__law_axes : FnOk P w K mg base (L2N.CX P w) 1 _ fd__law_axes P__law_axes (spOf K 1 ct__law_axes) := fn_ok D__law_axes sc__law_axes (bd__law_axes G ) rd_law_axes
  have F__law_axes : FnC P w K mg base 1 "_law_axes" 1 ct__law_axes := ⟨_, fd__law_axes, P__law_axes, rfl, O__law_axes, He.glo_ok X Gn (c.fact 15 (f := .glo "_law_axes") rfl), D__law_axes.kp, D__law_axes.bindsN (fun _ _ _ _ _ _ us hl => match us, hl with | [_], _ => rfl)⟩
  have O__law_mixed : FnOk P w K mg base (L2N.CX P w) 1 _ fd__law_mixed P__law_mixed (spOf K 3 ct__law_mixed) := fn_ok D__law_mixed sc__law_mixed (bd__law_mixed G ) rd_law_mixed
  have F__law_mixed : FnC P w K mg base 1 "_law_mixed" 3 ct__law_mixed := ⟨_, fd__law_mixed, P__law_mixed, rfl, O__law_mixed, He.glo_ok X Gn (c.fact 16 (f := .glo "_law_mixed") rfl), D__law_mixed.kp, D__law_mixed.bindsN (fun _ _ _ _ _ _ us hl => match us, hl with | [_, _, _], _ => rfl)⟩
  have O__law_bag : FnOk P w K mg base (L2N.CX P w) 4 _ fd__law_bag P__law_bag (spOf K 1 ct__law_bag) := fn_ok D__law_bag sc__law_bag (bd__law_bag G F__law_axes F__law_drawn F__law_mixed F__law_row) rd_law_bag
  have F__law_bag : FnC P w K mg base 4 "_law_bag" 1 ct__law_bag := ⟨_, fd__law_bag, P__law_bag, rfl, O__law_bag, He.glo_ok X Gn (c.fact 17 (f := .glo "_law_bag") rfl), D__law_bag.kp, D__law_bag.bindsN (fun _ _ _ _ _ _ us hl => match us, hl with | [_], _ => rfl)⟩
  have O__law_told : FnOk P w K mg base (L2N.CX P w) 8 _ fd__law_told P__law_told (spOf K 1 ct__law_told) := fn_ok D__law_told sc__law_told (bd__law_told G F_closed) rd_law_told
  have F__law_told : FnC P w K mg base 8 "_law_told" 1 ct__law_told := ⟨_, fd__law_told, P__law_told, rfl, O__law_told, He.glo_ok X Gn (c.fact 18 (f := .glo "_law_told") rfl), D__law_told.kp, D__law_told.bindsN (fun _ _ _ _ _ _ us hl => match us, hl with | [_], _ => rfl)⟩
  have O__law_plain : FnOk P w K mg base (L2N.CX P w) 2 _ fd__law_plain P__law_plain (spOf K 3 ct__law_plain) := fn_ok D__law_plain sc__law_plain (bd__law_plain G F__law_word) rd_law_plain
  have F__law_plain : FnC P w K mg base 2 "_law_plain" 3 ct__law_plain := ⟨_, fd__law_plain, P__law_plain, rfl, O__law_plain, He.glo_ok X Gn (c.fact 19 (f := .glo "_law_plain") rfl), D__law_plain.kp, D__law_plain.bindsN (fun _ _ _ _ _ _ us hl => match us, hl with | [_, _, _], _ => rfl)⟩
  have O__law_right : FnOk P w K mg base (L2N.CX P w) 9 _ fd__law_right P__law_right (spOf K 3 ct__law_right) := fn_ok D__law_right sc__law_right (bd__law_right G F__law_plain F__law_told) rd_law_right
  have F__law_right : FnC P w K mg base 9 "_law_right" 3 ct__law_right := ⟨_, fd__law_right, P__law_right, rfl, O__law_right, He.glo_ok X Gn (c.fact 20 (f := .glo "_law_right") rfl), D__law_right.kp, D__law_right.bindsN (fun _ _ _ _ _ _ us hl => match us, hl with | [_, _, _], _ => rfl)⟩
  have O__law_asked : FnOk P w K mg base (L2N.CX P w) 10 _ fd__law_asked P__law_asked (spOf K 1 ct__law_asked) := fn_ok D__law_asked sc__law_asked (bd__law_asked G M_Words F__law_bag F__law_closure F__law_plain F__law_right F__law_word K_closed) rd_law_asked
  have F__law_asked : FnC P w K mg base 10 "_law_asked" 1 ct__law_asked := ⟨_, fd__law_asked, P__law_asked, rfl, O__law_asked, He.glo_ok X Gn (c.fact 21 (f := .glo "_law_asked") rfl), D__law_asked.kp, D__law_asked.bindsN (fun _ _ _ _ _ _ us hl => match us, hl with | [_], _ => rfl)⟩
  have O_law : FnOk P w K mg base (L2N.CX P w) 11 _ fd_law P_law (spOf K 1 ct_law) := fn_ok D_law sc_law (bd_law G F__law_asked) rd_law
  exact O_law
end L2.MW.K34
open PySem PySem.W PySem.Calls PyProof.Rows
theorem PySem.Challenge.cw_middlewebs_k34_whole_closure_holds : PySem.Challenge.rw_middlewebs_k34_whole_closure.Holds := by
  w_on; o_law
  refine HandSHeadRun.head_any (r := OpenLaw.row PySem.Challenge.rw_middlewebs_k34_whole_closure) (q := view (OpenLaw.row PySem.Challenge.rw_middlewebs_k34_whole_closure).prog [33]) (H := L2.MW.K34.hk) (ob := L2.MW.K34.ob) (M := 5000) (loose := L2.MW.K34.names) (d := HandSHeadRun.topDef (OpenLaw.row PySem.Challenge.rw_middlewebs_k34_whole_closure).prog 33) (kwd := []) L2.MW.K34.ob_eq
    (by kernel_rfl) (fun s => by kernel_rfl) L2.MW.K34.run (by kernel_rfl) (by kernel_rfl) (by kernel_rfl) (by rfl) (by first | assumption | decide +kernel) (by decide +kernel) ⟨rfl, rfl, rfl, rfl, rfl, by decide +kernel⟩ ?hw ?hc
  case hw => w_witness2
  case hc =>
    refine L2.walk_ofE (l := PySem.Challenge.rw_middlewebs_k34_whole_closure) (n := 63) (k := 11) (x := "script") (CX := L2.CX0) rfl (by decide) (by kernel_rfl) ⟨rfl, by decide, by decide⟩ ?F (fun _ _ _ _ z => z)
    intro w mg fa h Y G hmg0
    obtain ⟨K, KX, c⟩ := Y
    have hmg : mg ("law" : PySem.Str) = some (.ref fa) := by
      have e : (HandSHeadRun.topDef (OpenLaw.row PySem.Challenge.rw_middlewebs_k34_whole_closure).prog 33).name = ("law" : PySem.Str) := by kernel_rfl
      rw [← e]
      exact hmg0
    obtain ⟨fd, hb, hF⟩ := L2.MW.K34.facts (P := (PySem.Challenge.rw_middlewebs_k34_whole_closure).prog) (w := w) KX G hmg c
    exact ⟨K, fd, fun vs H Q _ => L2.MW.spOf K 1 L2.MW.K34.ct_law vs H Q fun _ _ _ => False, KX, hb, fun H a ns hl _ hS => L2.MW.law_sp (c := L2.MW.K34.ct_law) hS ⟨ns, rfl, hl, rfl⟩, fun base _ _ => L2.MW.cx0 (hF base)⟩

