import PyProof.Rows.All
import Wide.All
import OpenK.AllK
import Wide.FinOn
import KE.KStateDown
import HandS.ForMost
import HandS.ForExc
import HandS.HeadHook2
import HandS.TryMany
import HandS.ExcIs
import HandS.TupLe
import HandS.Deep
import HandS.Conv
import HandS.IsInst
import HandS.Flow
import HandS.Zip
import HandS.CallSlots
import HandS.Style
import HandS.TupMul
import HandS.More
import HandS.WideBits
import HandS.SortInts
import HandS.Defaults
import HandS.TupAny
import HandS.SortRule
import HandS.Rev
import HandS.MakeKwOnly
import HandS.RevTup
import HandS.TryOnly
import HandS.Head0
import HandS.Head1
import HandS.Head2
import HandS.HeadEnd
import HandS.HeadHook1
import HandS.Words
import PySem.Challenge.RW_middlewebs_k47_state_judge
set_option Elab.async false
set_option linter.all false
set_option maxRecDepth 100000
set_option maxHeartbeats 0
/-! MW, part A: data as a whole (D), the heap of lists that change (DHp), the relation to the hand layer's values, a reading over data (SE). -/
namespace L2.MW
open PySem PySem.Spec PyProof.Rows

/-- a value as a whole: tuples, lists that change no more and objects that change no more are held whole; ref i: the i-th thing of the changing heap -/
inductive D where
  | non | bl (b : Bool) | int (i : Int) | str (x : Str)
  | tup (l : List D) | lst (l : List D) | fz (l : List D) | ref (i : Nat)
  | obj (c : String) (fs : List (Str × D))
  | ty (n : String) | cls (c : String)
  deriving Inhabited

/-- a thing that changes -/
inductive HB where
  | lst (l : List D)
  | ins (c : String) (fs : List (Str × D))
abbrev DHp := List HB
abbrev DSt := List (Option D)
abbrev DK := D → DHp → Prop


section
variable (K : PySem.W.Frag)
/-- a tuple, a list that is read at a, not among the changing ones -/
def TupAt (ρ : List Addr) (H : Hp) (a : Addr) (vs : List V) : Prop := a ∉ ρ ∧ H a = some (.tup vs)
def LstAt (ρ : List Addr) (H : Hp) (a : Addr) (vs : List V) : Prop := a ∉ ρ ∧ H a = some (.lst vs)
/-- a list that others made (the script, the module's own) -/
def FzAt (ρ : List Addr) (H : Hp) (a : Addr) (vs : List V) : Prop :=
  (a ∉ ρ ∧ Rd H a (.lst vs)) ∨ ∃ (o : Obj) (its : Array Value) (n : Nat), K.lookup a = some o ∧ o.cls = .type "list" ∧ o.dict = none ∧ o.data = .seq its n ∧ its.size ≤ sizeLine ∧ Vals vs its.toList
theorem TupAt.sq {K : PySem.W.Frag} {ρ : List Addr} {H : Hp} {a : Addr} {vs : List V} (h : TupAt ρ H a vs) : SqT K H a vs := SqT.of h.2
theorem LstAt.sq {K : PySem.W.Frag} {ρ : List Addr} {H : Hp} {a : Addr} {vs : List V} (h : LstAt ρ H a vs) : SqL K H a vs := SqL.of h.2
theorem FzAt.sq {K : PySem.W.Frag} {ρ : List Addr} {H : Hp} {a : Addr} {vs : List V} (h : FzAt K ρ H a vs) : SqL K H a vs := h.imp (fun h => h.2) id

mutual
def DV (ρ : List Addr) (H : Hp) : D → V → Prop
  | .non, v => v = .non
  | .bl b, v => v = .bl b
  | .int i, v => v = .int i
  | .str x, v => v = .str x
  | .tup l, v => ∃ a vs, v = .ref a ∧ TupAt ρ H a vs ∧ DVs ρ H l vs
  | .lst l, v => ∃ a vs, v = .ref a ∧ LstAt ρ H a vs ∧ DVs ρ H l vs
  | .fz l, v => ∃ a vs, v = .ref a ∧ FzAt K ρ H a vs ∧ DVs ρ H l vs
  | .ref i, v => ∃ a, v = .ref a ∧ ρ[i]? = some a
  | .obj c fs, v => ∃ a dx ws, v = .ref a ∧ a ∉ ρ ∧ H a = some (.ins (He.ga K (Str.ofString c)) dx ws) ∧ DFs ρ H fs ws
  | .ty n, v => v = .ty n
  | .cls c, v => v = .ref (He.ga K (Str.ofString c))
def DVs (ρ : List Addr) (H : Hp) : List D → List V → Prop
  | [], vs => vs = []
  | d :: ds, vs => ∃ v r, vs = v :: r ∧ DV ρ H d v ∧ DVs ρ H ds r
def DFs (ρ : List Addr) (H : Hp) : List (Str × D) → List (Str × V) → Prop
  | [], ws => ws = []
  | p :: ps, ws => ∃ v r, ws = (p.1, v) :: r ∧ DV ρ H p.2 v ∧ DFs ρ H ps r
end
end

/-- the heap went on: what stood apart from the changing things stands; the changing things are those and new ones -/
structure Ext (ρ : List Addr) (H : Hp) (ρ' : List Addr) (H' : Hp) : Prop where
  pre : ∃ t, ρ' = ρ ++ t
  new : ∀ a : Addr, a ∈ ρ' → a ∉ ρ → H a = none
  old : ∀ (a : Addr) (o : HO), a ∉ ρ → H a = some o → H' a = some o
theorem Ext.refl {ρ : List Addr} {H : Hp} : Ext ρ H ρ H := ⟨⟨[], by simp⟩, fun _ h n => absurd h n, fun _ _ _ h => h⟩
theorem Ext.trans {ρ ρ1 ρ2 : List Addr} {H H1 H2 : Hp} (a : Ext ρ H ρ1 H1) (b : Ext ρ1 H1 ρ2 H2) : Ext ρ H ρ2 H2 := by
  obtain ⟨t, e⟩ := a.pre
  obtain ⟨u, e'⟩ := b.pre
  refine ⟨⟨t ++ u, by rw [e', e, List.append_assoc]⟩, fun x hx hn => ?_, fun x o hn h => ?_⟩
  · by_cases h1 : x ∈ ρ1
    · exact a.new x h1 hn
    · have h2 := b.new x hx h1
      cases q : H x with
      | none => rfl
      | some o => rw [a.old x o hn q] at h2; cases h2
  · refine b.old x o (fun h1 => ?_) (a.old x o hn h)
    rw [a.new x h1 hn] at h; cases h
theorem Ext.out {ρ ρ' : List Addr} {H H' : Hp} {a : Addr} {o : HO} (e : Ext ρ H ρ' H') (n : a ∉ ρ) (h : H a = some o) : a ∉ ρ' := fun q => by
  rw [e.new a q n] at h; cases h
theorem Ext.get {ρ ρ' : List Addr} {H H' : Hp} {i : Nat} {a : Addr} (e : Ext ρ H ρ' H') (h : ρ[i]? = some a) : ρ'[i]? = some a := by
  obtain ⟨t, q⟩ := e.pre
  rw [q, List.getElem?_append_left (List.getElem?_eq_some_iff.mp h).1]; exact h
section
variable {K : PySem.W.Frag} {ρ ρ' : List Addr} {H H' : Hp}
theorem Rd.ex {H : Hp} {a : Addr} {u : HO} (h : Rd H a u) : ∃ o, H a = some o := h.elim (fun h => ⟨_, h⟩) fun ⟨o, h⟩ => ⟨_, h⟩
theorem Ext.rd {a : Addr} {u : HO} (e : Ext ρ H ρ' H') (n : a ∉ ρ) (h : Rd H a u) : Rd H' a u := h.imp (fun h => e.old _ _ n h) fun ⟨o, h⟩ => ⟨o, e.old _ _ n h⟩
theorem TupAt.ext {a : Addr} {vs : List V} (e : Ext ρ H ρ' H') (h : TupAt ρ H a vs) : TupAt ρ' H' a vs := ⟨e.out h.1 h.2, e.old _ _ h.1 h.2⟩
theorem LstAt.ext {a : Addr} {vs : List V} (e : Ext ρ H ρ' H') (h : LstAt ρ H a vs) : LstAt ρ' H' a vs := ⟨e.out h.1 h.2, e.old _ _ h.1 h.2⟩
theorem FzAt.ext {a : Addr} {vs : List V} (e : Ext ρ H ρ' H') (h : FzAt K ρ H a vs) : FzAt K ρ' H' a vs :=
  h.imp (fun ⟨n, h⟩ => ⟨let ⟨_, q⟩ := Rd.ex h; e.out n q, e.rd n h⟩) id
mutual
theorem DV.ext (e : Ext ρ H ρ' H') : ∀ (d : D) (v : V), DV K ρ H d v → DV K ρ' H' d v
  | .non, _, h => h
  | .bl _, _, h => h
  | .int _, _, h => h
  | .str _, _, h => h
  | .tup l, _, ⟨a, vs, e1, h1, h2⟩ => ⟨a, vs, e1, h1.ext e, DVs.ext e l vs h2⟩
  | .lst l, _, ⟨a, vs, e1, h1, h2⟩ => ⟨a, vs, e1, h1.ext e, DVs.ext e l vs h2⟩
  | .fz l, _, ⟨a, vs, e1, h1, h2⟩ => ⟨a, vs, e1, h1.ext e, DVs.ext e l vs h2⟩
  | .ref i, _, ⟨a, e1, h1⟩ => ⟨a, e1, e.get h1⟩
  | .obj c fs, _, ⟨a, dx, ws, e1, n, h1, h2⟩ => ⟨a, dx, ws, e1, e.out n h1, e.old _ _ n h1, DFs.ext e fs ws h2⟩
  | .ty _, _, h => h
  | .cls _, _, h => h
theorem DVs.ext (e : Ext ρ H ρ' H') : ∀ (ds : List D) (vs : List V), DVs K ρ H ds vs → DVs K ρ' H' ds vs
  | [], _, h => h
  | d :: ds, _, ⟨v, r, e1, h1, h2⟩ => ⟨v, r, e1, DV.ext e d v h1, DVs.ext e ds r h2⟩
theorem DFs.ext (e : Ext ρ H ρ' H') : ∀ (ds : List (Str × D)) (vs : List (Str × V)), DFs K ρ H ds vs → DFs K ρ' H' ds vs
  | [], _, h => h
  | p :: ds, _, ⟨v, r, e1, h1, h2⟩ => ⟨v, r, e1, DV.ext e p.2 v h1, DFs.ext e ds r h2⟩
end
/-! lists of data -/
theorem DVs.length : ∀ {ds : List D} {vs : List V}, DVs K ρ H ds vs → vs.length = ds.length
  | [], _, h => by rw [show _ = [] from h]; rfl
  | d :: ds, _, ⟨v, r, e1, h1, h2⟩ => by rw [e1, List.length_cons, List.length_cons, DVs.length h2]
theorem DVs.get : ∀ {ds : List D} {vs : List V} {i : Nat} {d : D}, DVs K ρ H ds vs → ds[i]? = some d → ∃ v, vs[i]? = some v ∧ DV K ρ H d v
  | [], _, _, _, _, h => by simp at h
  | d :: ds, _, 0, _, ⟨v, r, e1, h1, h2⟩, h => by
    simp at h; subst h; subst e1; exact ⟨v, rfl, h1⟩
  | d :: ds, _, i + 1, x, ⟨v, r, e1, h1, h2⟩, h => by
    subst e1
    obtain ⟨w, q, r'⟩ := DVs.get (i := i) h2 (by simpa using h)
    exact ⟨w, by simpa using q, r'⟩
theorem DVs.append : ∀ {ds es : List D} {vs ws : List V}, DVs K ρ H ds vs → DVs K ρ H es ws → DVs K ρ H (ds ++ es) (vs ++ ws)
  | [], _, _, _, h, q => by rw [show _ = [] from h]; exact q
  | d :: ds, _, _, _, ⟨v, r, e1, h1, h2⟩, q => by subst e1; exact ⟨v, r ++ _, rfl, h1, DVs.append h2 q⟩
theorem DVs.one {d : D} {v : V} (h : DV K ρ H d v) : DVs K ρ H [d] [v] := ⟨v, [], rfl, h, rfl⟩
theorem DVs.take : ∀ {ds : List D} {vs : List V} (n : Nat), DVs K ρ H ds vs → DVs K ρ H (ds.take n) (vs.take n)
  | _, _, 0, _ => rfl
  | [], _, n + 1, h => by rw [show _ = [] from h]; rfl
  | d :: ds, _, n + 1, ⟨v, r, e1, h1, h2⟩ => by subst e1; exact ⟨v, r.take n, rfl, h1, DVs.take n h2⟩
theorem DVs.drop : ∀ {ds : List D} {vs : List V} (n : Nat), DVs K ρ H ds vs → DVs K ρ H (ds.drop n) (vs.drop n)
  | _, _, 0, h => h
  | [], _, n + 1, h => by rw [show _ = [] from h]; rfl
  | d :: ds, _, n + 1, ⟨v, r, e1, h1, h2⟩ => by subst e1; exact DVs.drop n h2
theorem DVs.set {d : D} {v : V} (q : DV K ρ H d v) : ∀ {ds : List D} {vs : List V} (n : Nat), DVs K ρ H ds vs → DVs K ρ H (ds.set n d) (vs.set n v)
  | [], _, n, h => by rw [show _ = [] from h]; rfl
  | e :: ds, _, 0, ⟨w, r, e1, h1, h2⟩ => by subst e1; exact ⟨v, r, rfl, q, h2⟩
  | e :: ds, _, n + 1, ⟨w, r, e1, h1, h2⟩ => by subst e1; exact ⟨w, r.set n v, rfl, h1, DVs.set q n h2⟩
theorem DVs.reverse : ∀ {ds : List D} {vs : List V}, DVs K ρ H ds vs → DVs K ρ H ds.reverse vs.reverse
  | [], _, h => by rw [show _ = [] from h]; rfl
  | d :: ds, _, ⟨v, r, e1, h1, h2⟩ => by subst e1; rw [List.reverse_cons, List.reverse_cons]; exact (DVs.reverse h2).append (.one h1)
theorem DVs.at_ : ∀ {ds : List D} {vs : List V} {i : Nat} {v : V}, DVs K ρ H ds vs → vs[i]? = some v → ∃ d, ds[i]? = some d ∧ DV K ρ H d v := fun {ds vs i v} h e => by
  have hl := h.length
  have hi : i < ds.length := by rw [← hl]; exact (List.getElem?_eq_some_iff.mp e).1
  obtain ⟨w, q, r⟩ := h.get (List.getElem?_eq_getElem hi)
  rw [e] at q; cases q
  exact ⟨_, List.getElem?_eq_getElem hi, r⟩
theorem DVs.ints : ∀ {ns : List Int} {vs : List V}, DVs K ρ H (ns.map D.int) vs → vs = ns.map V.int
  | [], _, h => h
  | n :: ns, _, ⟨v, r, e1, h1, h2⟩ => by rw [e1, show v = .int n from h1, DVs.ints h2]; rfl
theorem DVs.of_ints : ∀ {ns : List Int}, DVs K ρ H (ns.map D.int) (ns.map V.int)
  | [] => rfl
  | n :: ns => ⟨_, _, rfl, rfl, DVs.of_ints⟩
theorem DVs.bls : ∀ {ns : List Bool} {vs : List V}, DVs K ρ H (ns.map D.bl) vs → vs = ns.map V.bl
  | [], _, h => h
  | n :: ns, _, ⟨v, r, e1, h1, h2⟩ => by rw [e1, show v = .bl n from h1, DVs.bls h2]; rfl
theorem DVs.strs : ∀ {ns : List Str} {vs : List V}, DVs K ρ H (ns.map D.str) vs → vs = ns.map V.str
  | [], _, h => h
  | n :: ns, _, ⟨v, r, e1, h1, h2⟩ => by rw [e1, show v = .str n from h1, DVs.strs h2]; rfl
theorem DVs.of_strs : ∀ {ns : List Str}, DVs K ρ H (ns.map D.str) (ns.map V.str)
  | [] => rfl
  | n :: ns => ⟨_, _, rfl, rfl, DVs.of_strs⟩
theorem DFs.lookup : ∀ {fs : List (Str × D)} {ws : List (Str × V)} {f : Str} {d : D}, DFs K ρ H fs ws → fs.lookup f = some d → ∃ v, ws.lookup f = some v ∧ DV K ρ H d v
  | [], _, _, _, _, h => by simp at h
  | (g, x) :: fs, _, f, d, ⟨v, r, e1, h1, h2⟩, h => by
    subst e1
    rw [List.lookup_cons] at h ⊢
    cases q : f == g with
    | true => rw [q] at h; cases h; exact ⟨v, rfl, h1⟩
    | false => rw [q] at h; exact DFs.lookup h2 h
theorem DFs.lookup_none : ∀ {fs : List (Str × D)} {ws : List (Str × V)} {f : Str}, DFs K ρ H fs ws → fs.lookup f = none → ws.lookup f = none
  | [], _, _, h, _ => by rw [show _ = [] from h]; rfl
  | (g, x) :: fs, _, f, ⟨v, r, e1, h1, h2⟩, h => by
    subst e1
    rw [List.lookup_cons] at h ⊢
    cases q : f == g with
    | true => rw [q] at h; cases h
    | false => rw [q] at h; exact DFs.lookup_none h2 h
theorem DFs.length : ∀ {fs : List (Str × D)} {ws : List (Str × V)}, DFs K ρ H fs ws → ws.length = fs.length
  | [], _, h => by rw [show _ = [] from h]; rfl
  | p :: fs, _, ⟨v, r, e1, h1, h2⟩ => by rw [e1, List.length_cons, List.length_cons, DFs.length h2]
end

/-- the changing heap stands at ρ -/
def HbAt (K : PySem.W.Frag) (ρ : List Addr) (H : Hp) (a : Addr) : HB → Prop
  | .lst l => ∃ vs, H a = some (.lst vs) ∧ DVs K ρ H l vs
  | .ins c fs => ∃ dx ws, H a = some (.ins (He.ga K (Str.ofString c)) dx ws) ∧ DFs K ρ H fs ws
structure HR (K : PySem.W.Frag) (ρ : List Addr) (h : DHp) (H : Hp) : Prop where
  len : ρ.length = h.length
  nd : ρ.Nodup
  at_ : ∀ (i : Nat) (b : HB) (a : Addr), h[i]? = some b → ρ[i]? = some a → HbAt K ρ H a b
theorem HR.get {K : PySem.W.Frag} {ρ : List Addr} {h : DHp} {H : Hp} {i : Nat} {b : HB} (r : HR K ρ h H) (e : h[i]? = some b) : ∃ a, ρ[i]? = some a ∧ HbAt K ρ H a b := by
  have hi : i < ρ.length := by rw [r.len]; exact (List.getElem?_eq_some_iff.mp e).1
  exact ⟨_, List.getElem?_eq_getElem hi, r.at_ _ _ _ e (List.getElem?_eq_getElem hi)⟩
theorem HR.ex {K : PySem.W.Frag} {ρ : List Addr} {h : DHp} {H : Hp} {a : Addr} (r : HR K ρ h H) (e : a ∈ ρ) : ∃ o, H a = some o := by
  obtain ⟨i, hi, rfl⟩ := List.getElem_of_mem e
  have h2 : i < h.length := by rw [← r.len]; exact hi
  have q := r.at_ i _ _ (List.getElem?_eq_getElem h2) (List.getElem?_eq_getElem hi)
  revert q
  cases h[i] with
  | lst l => rintro ⟨vs, q, _⟩; exact ⟨_, q⟩
  | ins c fs => rintro ⟨dx, ws, q, _⟩; exact ⟨_, q⟩

/-- the slots -/
structure SR (K : PySem.W.Frag) (ρ : List Addr) (H : Hp) (σd : DSt) (σ : St) : Prop where
  len : σd.length = σ.length
  at_ : ∀ (i : Nat) (d : D), σd[i]? = some (some d) → ∃ v, σ[i]? = some (some v) ∧ DV K ρ H d v
theorem SR.ext {K : PySem.W.Frag} {ρ ρ' : List Addr} {H H' : Hp} {σd : DSt} {σ : St} (e : Ext ρ H ρ' H') (r : SR K ρ H σd σ) : SR K ρ' H' σd σ :=
  ⟨r.len, fun i d h => let ⟨v, q, s⟩ := r.at_ i d h; ⟨v, q, s.ext e⟩⟩
theorem SR.set {K : PySem.W.Frag} {ρ : List Addr} {H : Hp} {σd : DSt} {σ : St} {i : Nat} {d : D} {v : V} (r : SR K ρ H σd σ) (q : DV K ρ H d v) : SR K ρ H (σd.set i (some d)) (σ.set i (some v)) := by
  refine ⟨by rw [List.length_set, List.length_set]; exact r.len, fun j x h => ?_⟩
  by_cases e : i = j
  · subst e
    have hi : i < σd.length := by
      have := (List.getElem?_eq_some_iff.mp h).1; rwa [List.length_set] at this
    rw [List.getElem?_set_self hi] at h
    cases h
    exact ⟨v, by rw [List.getElem?_set_self (by rw [← r.len]; exact hi)], q⟩
  · rw [List.getElem?_set_ne e] at h ⊢
    exact r.at_ j x h

/-- an exception that was made -/
structure Exc where
  cls : String
  fs : List (Str × D)
abbrev DX := Exc → DHp → Prop
def ExcAt (K : PySem.W.Frag) (ρ : List Addr) (H : Hp) (x : Exc) (cls : Value) (d : Option Addr) : Prop :=
  cls = .ref (He.ga K (Str.ofString x.cls)) ∧ ∃ dd ws, d = some dd ∧ dd ∉ ρ ∧ H dd = some (.xd ws) ∧ DFs K ρ H x.fs ws
abbrev DE := DSt → DHp → DX → DK → Prop
abbrev DT := DSt → DHp → DX → (Bool → DHp → Prop) → Prop
abbrev DA := DSt → DHp → DX → (List D → DHp → Prop) → Prop
/-- what is wanted of exceptions, as the layer's wish -/
def XW (K : PySem.W.Frag) (W : WX) (ρ : List Addr) (H : Hp) (σd : DSt) (σ : St) (Xd : DX) : Prop :=
  ∀ ρ' x h' cls d H', Ext ρ H ρ' H' → HR K ρ' h' H' → SR K ρ' H' σd σ → ExcAt K ρ' H' x cls d → Xd x h' → W cls d σ H'
theorem XW.ext {K : PySem.W.Frag} {W : WX} {ρ ρ' : List Addr} {H H' : Hp} {σd : DSt} {σ : St} {Xd : DX} (k : XW K W ρ H σd σ Xd) (e : Ext ρ H ρ' H') : XW K W ρ' H' σd σ Xd :=
  fun ρ2 x h2 cls d H2 e2 hr sr ea w => k ρ2 x h2 cls d H2 (e.trans e2) hr sr ea w
/-- the reading of an expression over data, as the layer's reading -/
def lE (K : PySem.W.Frag) (W : WX) (t : DE) : TE := fun σ H Q => ∃ ρ σd h Xd Qd, HR K ρ h H ∧ SR K ρ H σd σ ∧ t σd h Xd Qd ∧ XW K W ρ H σd σ Xd ∧
  ∀ ρ' d h' v H', Ext ρ H ρ' H' → HR K ρ' h' H' → DV K ρ' H' d v → Qd d h' → Q v H'
def lT (K : PySem.W.Frag) (W : WX) (t : DT) : TT := fun σ H Q => ∃ ρ σd h Xd Qd, HR K ρ h H ∧ SR K ρ H σd σ ∧ t σd h Xd Qd ∧ XW K W ρ H σd σ Xd ∧
  ∀ ρ' b h' H', Ext ρ H ρ' H' → HR K ρ' h' H' → Qd b h' → Q b H'
def lA (K : PySem.W.Frag) (W : WX) (t : DA) : TA := fun σ H Q => ∃ ρ σd h Xd Qd, HR K ρ h H ∧ SR K ρ H σd σ ∧ t σd h Xd Qd ∧ XW K W ρ H σd σ Xd ∧
  ∀ ρ' ds h' vs H', Ext ρ H ρ' H' → HR K ρ' h' H' → DVs K ρ' H' ds vs → Qd ds h' → Q vs H'
abbrev SE (X : Cx) (W : WX) (e : Expr) (t : DE) : Prop := PE X e (lE X.K W t)
abbrev ST (X : Cx) (W : WX) (e : Expr) (t : DT) : Prop := PT X e (lT X.K W t)
abbrev SW (X : Cx) (W : WX) (e : Expr) (t : DT) : Prop := PW X e (lT X.K W t)
abbrev SA (X : Cx) (W : WX) (es : List Expr) (t : DA) : Prop := PA X es (lA X.K W t)
theorem PE.imp {X : Cx} {e : Expr} {t t' : TE} (h : PE X e t) (i : ∀ σ H Q, t' σ H Q → t σ H Q) : PE X e t' := ⟨fun pins s σ H Q I w => h.run pins s σ H Q I (i σ H Q w)⟩
theorem PT.imp {X : Cx} {e : Expr} {t t' : TT} (h : PT X e t) (i : ∀ σ H Q, t' σ H Q → t σ H Q) : PT X e t' := ⟨fun pins s σ H Q I w => h.run pins s σ H Q I (i σ H Q w)⟩
theorem PW.imp {X : Cx} {e : Expr} {t t' : TT} (h : PW X e t) (i : ∀ σ H Q, t' σ H Q → t σ H Q) : PW X e t' := ⟨fun wh pins s σ H Q I w => h.run wh pins s σ H Q I (i σ H Q w)⟩
theorem PA.imp {X : Cx} {e : List Expr} {t t' : TA} (h : PA X e t) (i : ∀ σ H Q, t' σ H Q → t σ H Q) : PA X e t' := ⟨fun pos pins s σ H Q I w => h.run pos pins s σ H Q I (i σ H Q w)⟩
theorem PS.imp {X : Cx} {e : Stmt} {t t' : TS} (h : PS X e t) (i : ∀ D σ H, t' D σ H → t D σ H) : PS X e t' := ⟨fun pins s σ H D I w => h.run pins s σ H D I (i D σ H w)⟩
theorem PSs.imp {X : Cx} {e : List Stmt} {t t' : TS} (h : PSs X e t) (i : ∀ D σ H, t' D σ H → t D σ H) : PSs X e t' := ⟨fun pins s σ H D I w => h.run pins s σ H D I (i D σ H w)⟩
/-- continue: from lE's parts -/
theorem lE.go {K : PySem.W.Frag} {W : WX} {ρ : List Addr} {σd : DSt} {h : DHp} {H : Hp} {σ : St} {t : DE} {Xd : DX} {Qd : DK} {Q : VK} (hr : HR K ρ h H) (sr : SR K ρ H σd σ) (w : t σd h Xd Qd) (kx : XW K W ρ H σd σ Xd)
    (k : ∀ ρ' d h' v H', Ext ρ H ρ' H' → HR K ρ' h' H' → SR K ρ' H' σd σ → XW K W ρ' H' σd σ Xd → DV K ρ' H' d v → Qd d h' → Q v H') : lE K W t σ H Q :=
  ⟨ρ, σd, h, Xd, Qd, hr, sr, w, kx, fun ρ' d h' v H' e hr' dv q => k ρ' d h' v H' e hr' (sr.ext e) (kx.ext e) dv q⟩
theorem lT.go {K : PySem.W.Frag} {W : WX} {ρ : List Addr} {σd : DSt} {h : DHp} {H : Hp} {σ : St} {t : DT} {Xd : DX} {Qd : Bool → DHp → Prop} {Q : Bool → Hp → Prop} (hr : HR K ρ h H) (sr : SR K ρ H σd σ) (w : t σd h Xd Qd) (kx : XW K W ρ H σd σ Xd)
    (k : ∀ ρ' b h' H', Ext ρ H ρ' H' → HR K ρ' h' H' → SR K ρ' H' σd σ → XW K W ρ' H' σd σ Xd → Qd b h' → Q b H') : lT K W t σ H Q :=
  ⟨ρ, σd, h, Xd, Qd, hr, sr, w, kx, fun ρ' b h' H' e hr' q => k ρ' b h' H' e hr' (sr.ext e) (kx.ext e) q⟩
theorem lA.go {K : PySem.W.Frag} {W : WX} {ρ : List Addr} {σd : DSt} {h : DHp} {H : Hp} {σ : St} {t : DA} {Xd : DX} {Qd : List D → DHp → Prop} {Q : List V → Hp → Prop} (hr : HR K ρ h H) (sr : SR K ρ H σd σ) (w : t σd h Xd Qd) (kx : XW K W ρ H σd σ Xd)
    (k : ∀ ρ' ds h' vs H', Ext ρ H ρ' H' → HR K ρ' h' H' → SR K ρ' H' σd σ → XW K W ρ' H' σd σ Xd → DVs K ρ' H' ds vs → Qd ds h' → Q vs H') : lA K W t σ H Q :=
  ⟨ρ, σd, h, Xd, Qd, hr, sr, w, kx, fun ρ' ds h' vs H' e hr' dv q => k ρ' ds h' vs H' e hr' (sr.ext e) (kx.ext e) dv q⟩

/-! ### names, constants -/
section
variable {X : Cx} {W : WX}
def dVar (i : Nat) : DE := fun σ h _ Q => ∃ d, σ[i]? = some (some d) ∧ Q d h
def dC (d : D) : DE := fun _ h _ Q => Q d h
theorem se_var (i : Nat) {x : Str} {pos : Pos} (hN : X.N[i]? = some x := by rfl) (hv : Vis X.env.scope x := by first | exact Or.inl rfl | exact Or.inr (Or.inl rfl) | exact Or.inr (Or.inr rfl)) (hd : (x == ("__debug__" : Str)) = false := by decide)
    (hcd : (x == ("__classdict__" : Str)) = false := by decide) : SE X W (.Name x pos) (dVar i) := by
  refine PE.imp (pe_var hN hv hd hcd) fun σ H Q => ?_
  rintro ⟨ρ, σd, h, Xd, Qd, hr, sr, ⟨d, e, q⟩, _, k⟩
  obtain ⟨v, e', dv⟩ := sr.at_ i d e
  exact ⟨v, e', k ρ d h v H .refl hr dv q⟩
/-- a constant's value -/
theorem se_c {e : Expr} {d : D} {v : V} (he : PE X e (tC v)) (dv : ∀ ρ H, DV X.K ρ H d v) : SE X W e (dC d) := by
  refine PE.imp he fun σ H Q => ?_
  rintro ⟨ρ, σd, h, Xd, Qd, hr, sr, q, _, k⟩
  exact k ρ d h v H .refl hr (dv ρ H) q
theorem se_int {i : Int} {j : Nat} {pos : Pos} : SE X W (.Constant (.int i) j pos) (dC (.int i)) := se_c pe_int fun _ _ => rfl
theorem se_bl {b : Bool} {j : Nat} {pos : Pos} : SE X W (.Constant (.bool b) j pos) (dC (.bl b)) := se_c pe_bl fun _ _ => rfl
theorem se_non {j : Nat} {pos : Pos} : SE X W (.Constant .none j pos) (dC .non) := se_c pe_non fun _ _ => rfl
theorem se_str {x : Str} {j : Nat} {pos : Pos} : SE X W (.Constant (.str x) j pos) (dC (.str x)) := se_c pe_str fun _ _ => rfl
/-- a module's number -/
theorem se_gint {x : Str} {i : Int} {pos : Pos} (hg : Gl X x) (hm : ∃ t, X.mg x = some (.int i t)) (hd : (x == ("__debug__" : Str)) = false := by decide) : SE X W (.Name x pos) (dC (.int i)) := by
  obtain ⟨t, hm⟩ := hm
  exact se_c (pe_glob (v := .int i) hg hm ⟨_, rfl⟩ hd) fun _ _ => rfl
theorem se_gstr {x z : Str} {pos : Pos} (hg : Gl X x) (hm : ∃ t, X.mg x = some (.str z t)) (hd : (x == ("__debug__" : Str)) = false := by decide) : SE X W (.Name x pos) (dC (.str z)) := by
  obtain ⟨t, hm⟩ := hm
  exact se_c (pe_glob (v := .str z) hg hm ⟨_, rfl⟩ hd) fun _ _ => rfl
end
end L2.MW

/-! MW, part B: operators, comparisons, tests, displays, subscripts, fields. -/
namespace L2.MW
open PySem PySem.Spec PyProof.Rows

/-! ### a new thing -/
section
variable {K : PySem.W.Frag} {ρ : List Addr} {h : DHp} {H : Hp} {p : Addr} {o : HO}
theorem HR.out (hr : HR K ρ h H) (np : H p = none) : p ∉ ρ := fun hp => by
  obtain ⟨o, e⟩ := hr.ex hp
  rw [np] at e; cases e
theorem Ext.new1 (np : H p = none) : Ext ρ H ρ (upd H p o) :=
  ⟨⟨[], by simp⟩, fun _ h n => absurd h n, fun a u _ e => by rw [upd_ne (ne_of_none e np)]; exact e⟩
theorem HbAt.ext {ρ' : List Addr} {H' : Hp} {a : Addr} {b : HB} (e : Ext ρ H ρ' H') (ea : H' a = H a) (x : HbAt K ρ H a b) : HbAt K ρ' H' a b := by
  cases b with
  | lst l => obtain ⟨vs, e1, d⟩ := x; exact ⟨vs, ea.trans e1, DVs.ext e _ _ d⟩
  | ins c fs => obtain ⟨dx, ws, e1, d⟩ := x; exact ⟨dx, ws, ea.trans e1, DFs.ext e _ _ d⟩
theorem HR.new1 (hr : HR K ρ h H) (np : H p = none) : HR K ρ h (upd H p o) := by
  refine ⟨hr.len, hr.nd, fun i b a e1 e2 => (hr.at_ i b a e1 e2).ext (Ext.new1 np) (upd_ne fun z => ?_)⟩
  rw [z] at e2
  exact hr.out np (List.mem_of_getElem? e2)
theorem Ext.push (np : H p = none) : Ext ρ H (ρ ++ [p]) (upd H p o) := by
  refine ⟨⟨[p], rfl⟩, fun a ha hn => ?_, fun a u _ e => by rw [upd_ne (ne_of_none e np)]; exact e⟩
  rcases List.mem_append.mp ha with z | z
  · exact absurd z hn
  · rw [List.mem_singleton.mp z]; exact np
theorem HR.push {b : HB} (hr : HR K ρ h H) (np : H p = none) (hb : HbAt K (ρ ++ [p]) (upd H p o) p b) : HR K (ρ ++ [p]) (h ++ [b]) (upd H p o) := by
  refine ⟨by rw [List.length_append, List.length_append, hr.len]; rfl, ?_, fun i c a e1 e2 => ?_⟩
  · rw [List.nodup_append]
    refine ⟨hr.nd, by simp, fun a ha b hb => ?_⟩
    rw [List.mem_singleton.mp hb]
    intro z; subst z; exact hr.out np ha
  · by_cases hi : i < h.length
    · rw [List.getElem?_append_left hi] at e1
      rw [List.getElem?_append_left (by rw [hr.len]; exact hi)] at e2
      refine (hr.at_ i c a e1 e2).ext (Ext.push np) (upd_ne fun z => ?_)
      rw [z] at e2
      exact hr.out np (List.mem_of_getElem? e2)
    · have hi' : h.length ≤ i := Nat.le_of_not_lt hi
      rw [List.getElem?_append_right hi'] at e1
      rw [List.getElem?_append_right (by rw [hr.len]; exact hi'), hr.len] at e2
      have z : i - h.length = 0 := by
        have := (List.getElem?_eq_some_iff.mp e1).1
        simp at this; omega
      rw [z] at e1 e2
      cases e1; cases e2
      exact hb
theorem Ext.write (hp : p ∈ ρ) : Ext ρ H ρ (upd H p o) :=
  ⟨⟨[], by simp⟩, fun _ h n => absurd h n, fun a u n e => by rw [upd_ne (fun z => n (by rw [z]; exact hp))]; exact e⟩
theorem HR.write {i : Nat} {b : HB} (hr : HR K ρ h H) (hi : ρ[i]? = some p) (hb : HbAt K ρ (upd H p o) p b) : HR K ρ (h.set i b) (upd H p o) := by
  have hp : p ∈ ρ := List.mem_of_getElem? hi
  refine ⟨by rw [List.length_set]; exact hr.len, hr.nd, fun j c a e1 e2 => ?_⟩
  by_cases hj : i = j
  · subst hj
    have hl : i < h.length := by have := (List.getElem?_eq_some_iff.mp e1).1; rwa [List.length_set] at this
    rw [List.getElem?_set_self hl] at e1
    rw [hi] at e2
    cases e1; cases e2
    exact hb
  · rw [List.getElem?_set_ne hj] at e1
    refine (hr.at_ j c a e1 e2).ext (Ext.write hp) (upd_ne fun z => ?_)
    subst z
    obtain ⟨h1, q1⟩ := List.getElem?_eq_some_iff.mp hi
    obtain ⟨h2, q2⟩ := List.getElem?_eq_some_iff.mp e2
    exact hj ((List.getElem_inj hr.nd).mp (q1.trans q2.symm))
theorem TupAt.new {vs : List V} (hr : HR K ρ h H) (np : H p = none) : TupAt ρ (upd H p (.tup vs)) p vs := ⟨hr.out np, upd_same⟩
theorem LstAt.new {vs : List V} (hr : HR K ρ h H) (np : H p = none) : LstAt ρ (upd H p (.lst vs)) p vs := ⟨hr.out np, upd_same⟩
theorem DV.tupNew {ds : List D} {vs : List V} (hr : HR K ρ h H) (np : H p = none) (d : DVs K ρ H ds vs) : DV K ρ (upd H p (.tup vs)) (.tup ds) (.ref p) := ⟨p, vs, rfl, .new hr np, DVs.ext (Ext.new1 np) _ _ d⟩
theorem DV.lstNew {ds : List D} {vs : List V} (hr : HR K ρ h H) (np : H p = none) (d : DVs K ρ H ds vs) : DV K ρ (upd H p (.lst vs)) (.lst ds) (.ref p) := ⟨p, vs, rfl, .new hr np, DVs.ext (Ext.new1 np) _ _ d⟩
end

/-! ### lists as they are read -/
/-- the items of a list (fixed or changing) -/
def asL (h : DHp) : D → Option (List D)
  | .lst l => some l
  | .fz l => some l
  | .ref i => (match h[i]? with | some (.lst l) => some l | _ => none)
  | _ => none
/-- .. not of others' making -/
def asX (h : DHp) : D → Option (List D)
  | .lst l => some l
  | .ref i => (match h[i]? with | some (.lst l) => some l | _ => none)
  | _ => none
section
variable {K : PySem.W.Frag} {ρ : List Addr} {h : DHp} {H : Hp}
theorem asX_at {d : D} {v : V} {l : List D} (hr : HR K ρ h H) (dv : DV K ρ H d v) (e : asX h d = some l) : ∃ a vs, v = .ref a ∧ H a = some (.lst vs) ∧ DVs K ρ H l vs := by
  cases d with
  | lst l' => cases e; obtain ⟨a, vs, e1, h1, h2⟩ := dv; exact ⟨a, vs, e1, h1.2, h2⟩
  | ref i =>
    obtain ⟨a, e1, h1⟩ := dv
    have e' : (match h[i]? with | some (.lst l) => some l | _ => none) = some l := e
    cases q : h[i]? with
    | none => rw [q] at e'; cases e'
    | some b =>
      rw [q] at e'
      cases b with
      | lst l' => cases e'; obtain ⟨vs, h2, h3⟩ := hr.at_ i _ a q h1; exact ⟨a, vs, e1, h2, h3⟩
      | ins c fs => cases e'
  | _ => cases e
theorem asL_at {d : D} {v : V} {l : List D} (hr : HR K ρ h H) (dv : DV K ρ H d v) (e : asL h d = some l) : ∃ a vs, v = .ref a ∧ SqL K H a vs ∧ DVs K ρ H l vs := by
  cases d with
  | fz l' => cases e; obtain ⟨a, vs, e1, h1, h2⟩ := dv; exact ⟨a, vs, e1, h1.sq, h2⟩
  | lst l' => obtain ⟨a, vs, e1, h1, h2⟩ := asX_at hr dv e; exact ⟨a, vs, e1, .of h1, h2⟩
  | ref i => obtain ⟨a, vs, e1, h1, h2⟩ := asX_at hr dv e; exact ⟨a, vs, e1, .of h1, h2⟩
  | _ => cases e
end
/-- .. of a tuple or a list -/
def asS (h : DHp) : D → Option (List D)
  | .tup l => some l
  | d => asL h d
theorem asS_at {K : PySem.W.Frag} {ρ : List Addr} {h : DHp} {H : Hp} {d : D} {v : V} {l : List D} (hr : HR K ρ h H) (dv : DV K ρ H d v) (e : asS h d = some l) : ∃ a vs, v = .ref a ∧ (SqL K H a vs ∨ SqT K H a vs) ∧ DVs K ρ H l vs := by
  cases d with
  | tup l' => cases e; obtain ⟨a, vs, e1, h1, h2⟩ := dv; exact ⟨a, vs, e1, .inr h1.sq, h2⟩
  | lst l' => obtain ⟨a, vs, e1, h1, h2⟩ := asL_at hr dv e; exact ⟨a, vs, e1, .inl h1, h2⟩
  | fz l' => obtain ⟨a, vs, e1, h1, h2⟩ := asL_at hr dv e; exact ⟨a, vs, e1, .inl h1, h2⟩
  | ref i => obtain ⟨a, vs, e1, h1, h2⟩ := asL_at hr dv e; exact ⟨a, vs, e1, .inl h1, h2⟩
  | _ => cases e

/-! ### operators -/
abbrev D2 := D → D → DHp → DK → Prop
def L2ok (K : PySem.W.Frag) (op : D2) (r : R2) : Prop := ∀ ρ h H x y vx vy Qd Q, HR K ρ h H → DV K ρ H x vx → DV K ρ H y vy → op x y h Qd →
  (∀ ρ' d h' v H', Ext ρ H ρ' H' → HR K ρ' h' H' → DV K ρ' H' d v → Qd d h' → Q v H') → r vx vy H Q
def dOp (op : D2) (da db : DE) : DE := fun σ h X Q => da σ h X fun x h1 => db σ h1 X fun y h2 => op x y h2 Q
section
variable {X : Cx} {W : WX} {a b c : Expr} {da db dc : DE} {pos : Pos} {op : D2} {r : R2}
/-- two expressions, then by values -/
theorem two {Q : VK} {R : V → V → Hp → Prop} (L : L2ok X.K op r) {σ : St} {H : Hp} (w : lE X.K W (dOp op da db) σ H Q) (hR : ∀ x y H, r x y H Q → R x y H) : lE X.K W da σ H fun x H1 => lE X.K W db σ H1 fun y H2 => R x y H2 := by
  obtain ⟨ρ, σd, h, Xd, Qd, hr, sr, w, kx, k⟩ := w
  refine lE.go hr sr w kx fun ρ1 d1 h1 v1 H1 e1 hr1 sr1 kx1 dv1 w1 => lE.go hr1 sr1 w1 kx1 fun ρ2 d2 h2 v2 H2 e2 hr2 sr2 kx2 dv2 w2 => hR _ _ _ ?_
  exact L ρ2 h2 H2 d1 d2 v1 v2 Qd Q hr2 (dv1.ext e2) dv2 w2 fun ρ' d h' v H' e => k ρ' d h' v H' ((e1.trans e2).trans e)
theorem se_op {o : Operator} (ho : OpR X (binaryOp o) r) (L : L2ok X.K op r) (ha : SE X W a da) (hb : SE X W b db) : SE X W (.BinOp a o b pos) (dOp op da db) :=
  PE.imp (pe_op ho ha hb) fun σ H Q w => two L w fun _ _ _ q => q
theorem se_cmp {o : CmpOp} (ho : OpR X (compareOp o) r) (L : L2ok X.K op r) (ha : SE X W a da) (hb : SE X W b db) (hm : behindInMarks o b = false := by first | exact nomark _ | rfl) : SE X W (.Compare a [o] [b] pos) (dOp op da db) :=
  PE.imp (pe_cmpR ho ha hb hm) fun σ H Q w => two L w fun _ _ _ q => q
/-- a value that is True or False, as a test -/
def dTst (da : DE) : DT := fun σ h X Q => da σ h X fun d h' => ∃ b, d = .bl b ∧ Q b h'
theorem dTst_go {K : PySem.W.Frag} {σ : St} {H : Hp} {Q : Bool → Hp → Prop} (w : lT K W (dTst da) σ H Q) : lE K W da σ H fun x H' => ∃ k, x = .bl k ∧ Q k H' := by
  obtain ⟨ρ, σd, h, Xd, Qd, hr, sr, w, kx, k⟩ := w
  refine ⟨ρ, σd, h, Xd, _, hr, sr, w, kx, fun ρ' d h' v H' e hr' dv q => ?_⟩
  obtain ⟨b, rfl, q⟩ := q
  exact ⟨b, dv, k ρ' b h' H' e hr' q⟩
theorem st_cmp {o : CmpOp} (ho : OpR X (compareOp o) r) (L : L2ok X.K op r) (ha : SE X W a da) (hb : SE X W b db) (hm : behindInMarks o b = false := by first | exact nomark _ | rfl) : ST X W (.Compare a [o] [b] pos) (dTst (dOp op da db)) :=
  PT.imp (pt_cmpR ho ha hb hm) fun σ H Q w => two L (dTst_go w) fun _ _ _ q => q

/-! the truth of a value -/
def truD (h : DHp) : D → Option Bool
  | .non => some false
  | .bl b => some b
  | .int i => some (i != 0)
  | .str x => if x.length ≤ sizeLine then some ((x.length : Int) != 0) else none
  | d => (asS h d).map fun l => !l.isEmpty
def dTru (da : DE) : DT := fun σ h X Q => da σ h X fun d h' => ∃ b, truD h' d = some b ∧ Q b h'
theorem isEmpty_len {α β : Type} {xs : List α} {ys : List β} (h : xs.length = ys.length) : xs.isEmpty = ys.isEmpty := by
  cases xs <;> cases ys <;> first | rfl | cases h
theorem tru_at {K : PySem.W.Frag} {ρ : List Addr} {h : DHp} {H : Hp} {d : D} {v : V} {b : Bool} (hr : HR K ρ h H) (dv : DV K ρ H d v) (e : truD h d = some b) : TruV K v H b := by
  have sq : ∀ d, DV K ρ H d v → (asS h d).map (fun l => !l.isEmpty) = some b → TruV K v H b := fun d dv e => by
    obtain ⟨l, e1, e2⟩ := Option.map_eq_some_iff.mp e
    obtain ⟨a, vs, rfl, hq, ds⟩ := asS_at hr dv e1
    have z : b = !vs.isEmpty := by rw [← e2, isEmpty_len ds.length]
    rcases hq with hq | hq
    · exact .inl ⟨vs, hq, z⟩
    · exact .inr (.inl ⟨vs, hq, z⟩)
  cases d with
  | non => have z : v = .non := dv; subst z; cases e; exact rfl
  | bl c => have z : v = .bl c := dv; subst z; cases e; exact rfl
  | int i => have z : v = .int i := dv; subst z; cases e; exact rfl
  | str x =>
    rw [show v = .str x from dv]
    have e' : (if x.length ≤ sizeLine then some ((x.length : Int) != 0) else none) = some b := e
    by_cases hx : x.length ≤ sizeLine
    · rw [if_pos hx] at e'; cases e'; exact ⟨hx, rfl⟩
    · rw [if_neg hx] at e'; cases e'
  | tup l => exact sq _ dv e
  | lst l => exact sq _ dv e
  | fz l => exact sq _ dv e
  | ref i => exact sq _ dv e
  | obj _ _ => cases e
  | ty _ => cases e
  | cls _ => cases e
theorem st_tru (ha : SE X W a da) (he : ∀ whole, isTrue a X.env whole = (do let v ← whole; standAt a.pos; holding [v] (truthy v)) := by intro _; rfl) : ST X W a (dTru da) := by
  refine PT.imp (pt_truth ha he) fun σ H Q w => ?_
  obtain ⟨ρ, σd, h, Xd, Qd, hr, sr, w, kx, k⟩ := w
  refine ⟨ρ, σd, h, Xd, _, hr, sr, w, kx, fun ρ' d h' v H' e hr' dv q => ?_⟩
  obtain ⟨b, e1, q⟩ := q
  exact ⟨b, tru_at hr' dv e1, k ρ' b h' H' e hr' q⟩

/-! ### and, or, not; if as an expression -/
variable {tA tB : DT} {rest : List Expr}
def dAnd (t u : DT) : DT := fun σ h X Q => t σ h X fun b h1 => (b = true → u σ h1 X Q) ∧ (b = false → Q false h1)
def dOr (t u : DT) : DT := fun σ h X Q => t σ h X fun b h1 => (b = true → Q true h1) ∧ (b = false → u σ h1 X Q)
def dNot (t : DT) : DT := fun σ h X Q => t σ h X fun b h1 => Q (!b) h1
theorem sw_and1 (ha : ST X W a tA) : SW X W (.BoolOp .And [a] pos) tA := pw_and1 ha
theorem sw_or1 (ha : ST X W a tA) : SW X W (.BoolOp .Or [a] pos) tA := pw_or1 ha
theorem sw_and (ha : ST X W a tA) (hb : SW X W (.BoolOp .And (b :: rest) pos) tB) : SW X W (.BoolOp .And (a :: b :: rest) pos) (dAnd tA tB) := by
  refine PW.imp (pw_and ha hb) fun σ H Q w => ?_
  obtain ⟨ρ, σd, h, Xd, Qd, hr, sr, w, kx, k⟩ := w
  refine lT.go hr sr w kx fun ρ1 b1 h1 H1 e1 hr1 sr1 kx1 q => ?_
  cases b1 with
  | true => exact iteT ⟨ρ1, σd, h1, Xd, Qd, hr1, sr1, q.1 rfl, kx1, fun ρ' b h' H' e => k ρ' b h' H' (e1.trans e)⟩
  | false => exact iteF (k ρ1 false h1 H1 e1 hr1 (q.2 rfl))
theorem sw_or (ha : ST X W a tA) (hb : SW X W (.BoolOp .Or (b :: rest) pos) tB) : SW X W (.BoolOp .Or (a :: b :: rest) pos) (dOr tA tB) := by
  refine PW.imp (pw_or ha hb) fun σ H Q w => ?_
  obtain ⟨ρ, σd, h, Xd, Qd, hr, sr, w, kx, k⟩ := w
  refine lT.go hr sr w kx fun ρ1 b1 h1 H1 e1 hr1 sr1 kx1 q => ?_
  cases b1 with
  | true => exact iteT (k ρ1 true h1 H1 e1 hr1 (q.1 rfl))
  | false => exact iteF ⟨ρ1, σd, h1, Xd, Qd, hr1, sr1, q.2 rfl, kx1, fun ρ' b h' H' e => k ρ' b h' H' (e1.trans e)⟩
theorem st_w {e : Expr} (h : SW X W e tA) : ST X W e tA := h.pt
theorem st_not (ha : ST X W a tA) : ST X W (.UnaryOp .Not a pos) (dNot tA) := by
  refine PT.imp (pt_not ha) fun σ H Q w => ?_
  obtain ⟨ρ, σd, h, Xd, Qd, hr, sr, w, kx, k⟩ := w
  exact ⟨ρ, σd, h, Xd, _, hr, sr, w, kx, fun ρ' b h' H' e hr' q => k ρ' _ h' H' e hr' q⟩
/-- as values -/
def dAndV (da db : DE) : DE := fun σ h X Q => da σ h X fun d h1 => ∃ b, d = .bl b ∧ (b = true → db σ h1 X Q) ∧ (b = false → Q (.bl false) h1)
def dOrV (da db : DE) : DE := fun σ h X Q => da σ h X fun d h1 => ∃ b, d = .bl b ∧ (b = true → Q (.bl true) h1) ∧ (b = false → db σ h1 X Q)
def dNotV (da : DE) : DE := fun σ h X Q => da σ h X fun d h1 => ∃ b, d = .bl b ∧ Q (.bl (!b)) h1
theorem se_one {op} (h : SE X W a da) : SE X W (.BoolOp op [a] pos) da := pe_one h
theorem se_and (ha : SE X W a da) (hb : SE X W (.BoolOp .And (b :: rest) pos) db) : SE X W (.BoolOp .And (a :: b :: rest) pos) (dAndV da db) := by
  refine PE.imp (pe_and ha hb) fun σ H Q w => ?_
  obtain ⟨ρ, σd, h, Xd, Qd, hr, sr, w, kx, k⟩ := w
  refine lE.go hr sr w kx fun ρ1 d1 h1 v1 H1 e1 hr1 sr1 kx1 dv1 q => ?_
  obtain ⟨b1, rfl, q1, q2⟩ := q
  refine ⟨b1, dv1, ?_⟩
  cases b1 with
  | true => exact iteT ⟨ρ1, σd, h1, Xd, Qd, hr1, sr1, q1 rfl, kx1, fun ρ' d h' v H' e => k ρ' d h' v H' (e1.trans e)⟩
  | false => exact iteF (k ρ1 (.bl false) h1 _ H1 e1 hr1 rfl (q2 rfl))
theorem se_or (ha : SE X W a da) (hb : SE X W (.BoolOp .Or (b :: rest) pos) db) : SE X W (.BoolOp .Or (a :: b :: rest) pos) (dOrV da db) := by
  refine PE.imp (pe_or ha hb) fun σ H Q w => ?_
  obtain ⟨ρ, σd, h, Xd, Qd, hr, sr, w, kx, k⟩ := w
  refine lE.go hr sr w kx fun ρ1 d1 h1 v1 H1 e1 hr1 sr1 kx1 dv1 q => ?_
  obtain ⟨b1, rfl, q1, q2⟩ := q
  refine ⟨b1, dv1, ?_⟩
  cases b1 with
  | true => exact iteT (k ρ1 (.bl true) h1 _ H1 e1 hr1 rfl (q1 rfl))
  | false => exact iteF ⟨ρ1, σd, h1, Xd, Qd, hr1, sr1, q2 rfl, kx1, fun ρ' d h' v H' e => k ρ' d h' v H' (e1.trans e)⟩
theorem se_not (ha : SE X W a da) : SE X W (.UnaryOp .Not a pos) (dNotV da) := by
  refine PE.imp (pe_not ha) fun σ H Q w => ?_
  obtain ⟨ρ, σd, h, Xd, Qd, hr, sr, w, kx, k⟩ := w
  refine ⟨ρ, σd, h, Xd, _, hr, sr, w, kx, fun ρ1 d1 h1 v1 H1 e1 hr1 dv1 q => ?_⟩
  obtain ⟨b1, rfl, q⟩ := q
  exact ⟨b1, dv1, k ρ1 (.bl (!b1)) h1 _ H1 e1 hr1 rfl q⟩
def dIfE (t : DT) (da db : DE) : DE := fun σ h X Q => t σ h X fun b h1 => (b = true → da σ h1 X Q) ∧ (b = false → db σ h1 X Q)
theorem se_if {c : Expr} (hc : ST X W c tA) (ha : SE X W a da) (hb : SE X W b db) : SE X W (.IfExp c a b pos) (dIfE tA da db) := by
  refine PE.imp (pe_ifExp hc ha hb) fun σ H Q w => ?_
  obtain ⟨ρ, σd, h, Xd, Qd, hr, sr, w, kx, k⟩ := w
  refine lT.go hr sr w kx fun ρ1 b1 h1 H1 e1 hr1 sr1 kx1 q => ?_
  cases b1 with
  | true => exact iteT ⟨ρ1, σd, h1, Xd, Qd, hr1, sr1, q.1 rfl, kx1, fun ρ' d h' v H' e => k ρ' d h' v H' (e1.trans e)⟩
  | false => exact iteF ⟨ρ1, σd, h1, Xd, Qd, hr1, sr1, q.2 rfl, kx1, fun ρ' d h' v H' e => k ρ' d h' v H' (e1.trans e)⟩
/-- a < b < c -/
def dChn (op op' : D2) (da db dc : DE) : DE := fun σ h X Q => da σ h X fun x h1 => db σ h1 X fun y h2 => op x y h2 fun z h3 => ∃ k, z = .bl k ∧ (k = true → dc σ h3 X fun u h4 => op' y u h4 Q) ∧ (k = false → Q (.bl false) h3)

/-! ### arguments, displays -/
variable {es : List Expr} {ts : DA}
def aNil : DA := fun _ h _ Q => Q [] h
def aCons (da : DE) (ts : DA) : DA := fun σ h X Q => da σ h X fun x h1 => ts σ h1 X fun xs h2 => Q (x :: xs) h2
theorem sa_nil : SA X W [] aNil := PA.imp pa_nil fun σ H Q w => by
  obtain ⟨ρ, σd, h, Xd, Qd, hr, sr, w, kx, k⟩ := w
  exact k ρ [] h [] H .refl hr rfl w
theorem sa_cons (ha : SE X W a da) (hs : SA X W es ts) (hq : starEach (a :: es) X.env = (false, eval a X.env) :: starEach es X.env := by rfl) : SA X W (a :: es) (aCons da ts) := PA.imp (pa_cons ha hs hq) fun σ H Q w => by
  obtain ⟨ρ, σd, h, Xd, Qd, hr, sr, w, kx, k⟩ := w
  refine lE.go hr sr w kx fun ρ1 d1 h1 v1 H1 e1 hr1 sr1 kx1 dv1 w1 => lA.go hr1 sr1 w1 kx1 fun ρ2 ds h2 vs H2 e2 hr2 sr2 kx2 dvs w2 => ?_
  exact k ρ2 (d1 :: ds) h2 _ H2 (e1.trans e2) hr2 ⟨v1, vs, rfl, dv1.ext e2, dvs⟩ w2
def dTup (ts : DA) : DE := fun σ h X Q => ts σ h X fun ds h1 => ds.length ≤ sizeLine ∧ Q (.tup ds) h1
/-- a list that will not change -/
def dLst (ts : DA) : DE := fun σ h X Q => ts σ h X fun ds h1 => ds.length ≤ sizeLine ∧ Q (.lst ds) h1
/-- a list that may change -/
def dLstH (ts : DA) : DE := fun σ h X Q => ts σ h X fun ds h1 => ds.length ≤ sizeLine ∧ Q (.ref h1.length) (h1 ++ [.lst ds])
theorem se_tup {k : Nat} (h : SA X W es ts) : SE X W (.Tuple es k pos) (dTup ts) := PE.imp (pe_tup h) fun σ H Q w => by
  obtain ⟨ρ, σd, h, Xd, Qd, hr, sr, w, kx, k⟩ := w
  refine ⟨ρ, σd, h, Xd, _, hr, sr, w, kx, fun ρ1 ds h1 vs H1 e1 hr1 dvs q => ⟨by rw [dvs.length]; exact q.1, fun p np => ?_⟩⟩
  exact k ρ1 _ h1 _ _ (e1.trans (.new1 np)) (hr1.new1 np) (.tupNew hr1 np dvs) q.2
theorem se_lst (h : SA X W es ts) : SE X W (.List es pos) (dLst ts) := PE.imp (pe_lst h) fun σ H Q w => by
  obtain ⟨ρ, σd, h, Xd, Qd, hr, sr, w, kx, k⟩ := w
  refine ⟨ρ, σd, h, Xd, _, hr, sr, w, kx, fun ρ1 ds h1 vs H1 e1 hr1 dvs q => ⟨by rw [dvs.length]; exact q.1, fun p np => ?_⟩⟩
  exact k ρ1 _ h1 _ _ (e1.trans (.new1 np)) (hr1.new1 np) (.lstNew hr1 np dvs) q.2
theorem push_lst {K : PySem.W.Frag} {ρ : List Addr} {h : DHp} {H : Hp} {p : Addr} {ds : List D} {vs : List V} (hr : HR K ρ h H) (np : H p = none) (dvs : DVs K ρ H ds vs) :
    HR K (ρ ++ [p]) (h ++ [.lst ds]) (upd H p (.lst vs)) ∧ DV K (ρ ++ [p]) (upd H p (.lst vs)) (.ref h.length) (.ref p) :=
  ⟨hr.push np ⟨vs, upd_same, DVs.ext (.push np) _ _ dvs⟩, p, rfl, by rw [← hr.len, List.getElem?_append_right (Nat.le_refl _), Nat.sub_self]; rfl⟩
theorem se_lstH (h : SA X W es ts) : SE X W (.List es pos) (dLstH ts) := PE.imp (pe_lst h) fun σ H Q w => by
  obtain ⟨ρ, σd, h, Xd, Qd, hr, sr, w, kx, k⟩ := w
  refine ⟨ρ, σd, h, Xd, _, hr, sr, w, kx, fun ρ1 ds h1 vs H1 e1 hr1 dvs q => ⟨by rw [dvs.length]; exact q.1, fun p np => ?_⟩⟩
  obtain ⟨a1, a2⟩ := push_lst hr1 np dvs
  exact k _ _ _ _ _ (e1.trans (.push np)) a1 a2 q.2

/-! ### subscripts -/
theorem se_ix (hr : IxR X r) (L : L2ok X.K op r) (ha : SE X W a da) (hb : SE X W b db) (hs : PlainIx b := by exact fun _ _ => rfl) : SE X W (.Subscript a b pos) (dOp op da db) :=
  PE.imp (pe_ix hr ha hb hs) fun σ H Q w => two L w fun _ _ _ q => q
def dIx : D2 := fun x y h Q => ∃ i, y = .int i ∧ ((∃ l d, asS h x = some l ∧ atI l i = some d ∧ Q d h) ∨ ∃ z c, x = .str z ∧ z.length ≤ sizeLine ∧ atI z.cps.toList i = some c ∧ Q (.str ⟨#[c]⟩) h)
theorem atI_of {K : PySem.W.Frag} {ρ : List Addr} {H : Hp} {l : List D} {vs : List V} {i : Int} {d : D} (dvs : DVs K ρ H l vs) (e : atI l i = some d) : ∃ v, atI vs i = some v ∧ DV K ρ H d v := by
  unfold atI at e ⊢
  rw [dvs.length]
  cases q : ixN l.length i with
  | none => rw [q] at e; cases e
  | some j =>
    rw [q] at e
    exact dvs.get (show l[j]? = some d from e)
theorem L_ix {K : PySem.W.Frag} : L2ok K dIx (rIx K) := by
  intro ρ h H x y vx vy Qd Q hr dx dy w k
  obtain ⟨i, rfl, w⟩ := w
  rcases w with ⟨l, d, e1, e2, q⟩ | ⟨z, c, rfl, hz, e2, q⟩
  · obtain ⟨a, vs, rfl, hq, dvs⟩ := asS_at hr dx e1
    obtain ⟨v, e3, dv⟩ := atI_of dvs e2
    have fin := k ρ d h v H .refl hr dv q
    rcases hq with hq | hq
    · exact .inl ⟨a, vs, i, v, rfl, dy, hq, e3, fin⟩
    · exact .inr (.inl ⟨a, vs, i, v, rfl, dy, hq, e3, fin⟩)
  · exact .inr (.inr ⟨z, i, c, dx, dy, hz, e2, k ρ (.str ⟨#[c]⟩) h _ H .refl hr rfl q⟩)
theorem se_sub (ha : SE X W a da) (hb : SE X W b db) (hs : PlainIx b := by exact fun _ _ => rfl) : SE X W (.Subscript a b pos) (dOp dIx da db) := se_ix ix_seq L_ix ha hb hs

/-! ### fields -/
def dFld (f : Str) (da : DE) : DE := fun σ h X Q => da σ h X fun x h1 => (∃ c fs d, x = .obj c fs ∧ fs.lookup f = some d ∧ Q d h1) ∨ ∃ i c fs d, x = .ref i ∧ h1[i]? = some (.ins c fs) ∧ fs.lookup f = some d ∧ Q d h1
/-- the classes whose instances may be read of f -/
def FldOk (K : PySem.W.Frag) (cs : List String) (f : Str) : Prop := ∀ c ∈ cs, Cls K (He.ga K (Str.ofString c)) ∧ NoAttr K (He.ga K (Str.ofString c)) f
def nFld (cs : List String) (f : Str) (x : D) (h1 : DHp) (Q : DK) : Prop := ∃ c fs d, c ∈ cs ∧ (x = .obj c fs ∨ ∃ i, x = .ref i ∧ h1[i]? = some (.ins c fs)) ∧ fs.lookup f = some d ∧ Q d h1
theorem fld_eq {cs : List String} {f : Str} {c : String} {fs : List (Str × D)} {d : D} {h : DHp} {Q : DK} (hc : c ∈ cs) (e : fs.lookup f = some d) : nFld cs f (.obj c fs) h Q ↔ Q d h := by
  constructor
  · rintro ⟨c', fs', d', _, hx, e2, q⟩
    rcases hx with hx | ⟨i, hx, _⟩
    · cases hx
      rw [e] at e2; cases e2
      exact q
    · cases hx
  · intro q
    exact ⟨c, fs, d, hc, .inl rfl, e, q⟩
def dFldC (cs : List String) (f : Str) (da : DE) : DE := fun σ h X Q => da σ h X fun x h1 => nFld cs f x h1 Q
theorem se_fld {cs : List String} {f : Str} (hf : FldOk X.K cs f) (ha : SE X W a da) (hb : attributeBase a f X.env (eval a X.env) = eval a X.env := by rfl) : SE X W (.Attribute a f pos) (dFldC cs f da) := PE.imp (pe_fld ha hb) fun σ H Q w => by
  obtain ⟨ρ, σd, h, Xd, Qd, hr, sr, w, kx, k⟩ := w
  refine ⟨ρ, σd, h, Xd, _, hr, sr, w, kx, fun ρ1 x h1 v H1 e1 hr1 dv q => ?_⟩
  obtain ⟨c, fs, d, hc, hx, hl, q⟩ := q
  obtain ⟨hcl, hna⟩ := hf c hc
  have : ∃ a dx ws, v = .ref a ∧ H1 a = some (.ins (He.ga X.K (Str.ofString c)) dx ws) ∧ DFs X.K ρ1 H1 fs ws := by
    rcases hx with rfl | ⟨i, rfl, hi⟩
    · obtain ⟨a, dx, ws, e, _, q1, q2⟩ := dv; exact ⟨a, dx, ws, e, q1, q2⟩
    · obtain ⟨a, e, q1⟩ := dv
      obtain ⟨dx, ws, q2, q3⟩ := hr1.at_ i _ a hi q1
      exact ⟨a, dx, ws, e, q2, q3⟩
  obtain ⟨a, dx, ws, rfl, hH, dfs⟩ := this
  obtain ⟨u, hl', du⟩ := dfs.lookup hl
  exact ⟨a, _, dx, ws, u, rfl, hH, hcl, hna, hl', k ρ1 d h1 u H1 e1 hr1 du q⟩
end
end L2.MW

/-! MW, part C: the operators by their values. -/
namespace L2.MW
open PySem PySem.Spec PyProof.Rows

/-! ### ints -/
def dII (C : Int → Int → Prop) (g : Int → Int → D) : D2 := fun x y h Q => ∃ i j, x = .int i ∧ y = .int j ∧ C i j ∧ Q (g i j) h
def dI0 (g : Int → Int → D) : D2 := fun x y h Q => ∃ i j, x = .int i ∧ y = .int j ∧ Q (g i j) h
theorem L_II {K : PySem.W.Frag} {C : Int → Int → Prop} {g : Int → Int → D} {g' : Int → Int → V} (e : ∀ ρ H i j, DV K ρ H (g i j) (g' i j)) : L2ok K (dII C g) (rI C g') := by
  intro ρ h H x y vx vy Qd Q hr dx dy w k
  obtain ⟨i, j, rfl, rfl, c, q⟩ := w
  exact ⟨i, j, dx, dy, c, k ρ (g i j) h _ H .refl hr (e ρ H i j) q⟩
theorem L_I0 {K : PySem.W.Frag} {g : Int → Int → D} {g' : Int → Int → V} (e : ∀ ρ H i j, DV K ρ H (g i j) (g' i j)) : L2ok K (dI0 g) (rI0 g') := by
  intro ρ h H x y vx vy Qd Q hr dx dy w k
  obtain ⟨i, j, rfl, rfl, q⟩ := w
  exact ⟨i, j, dx, dy, k ρ (g i j) h _ H .refl hr (e ρ H i j) q⟩
section
variable {X : Cx} {W : WX} {a b c : Expr} {da db dc : DE} {pos : Pos}
theorem se_sub2 (ha : SE X W a da) (hb : SE X W b db) : SE X W (.BinOp a .Sub b pos) (dOp (dI0 fun i j => .int (i - j)) da db) := se_op op_sub (L_I0 fun _ _ _ _ => rfl) ha hb
theorem se_fdiv (ha : SE X W a da) (hb : SE X W b db) : SE X W (.BinOp a .FloorDiv b pos) (dOp (dII CDiv fun i j => .int (i / j)) da db) := se_op op_fdiv (L_II fun _ _ _ _ => rfl) ha hb
theorem se_mod (ha : SE X W a da) (hb : SE X W b db) : SE X W (.BinOp a .Mod b pos) (dOp (dII (fun _ j => 0 < j) fun i j => .int (i % j)) da db) := se_op op_mod (L_II fun _ _ _ _ => rfl) ha hb
theorem se_pow (ha : SE X W a da) (hb : SE X W b db) : SE X W (.BinOp a .Pow b pos) (dOp (dII CPow fun i j => .int (i ^ j.toNat)) da db) := se_op op_pow (L_II fun _ _ _ _ => rfl) ha hb
theorem se_shl (ha : SE X W a da) (hb : SE X W b db) : SE X W (.BinOp a .LShift b pos) (dOp (dII CPow fun i j => .int (i * 2 ^ j.toNat)) da db) := se_op op_shl (L_II fun _ _ _ _ => rfl) ha hb
theorem se_shr (ha : SE X W a da) (hb : SE X W b db) : SE X W (.BinOp a .RShift b pos) (dOp (dII (fun _ j => 0 ≤ j) fun i j => .int (i / 2 ^ j.toNat)) da db) := se_op op_shr (L_II fun _ _ _ _ => rfl) ha hb
theorem se_band (ha : SE X W a da) (hb : SE X W b db) : SE X W (.BinOp a .BitAnd b pos) (dOp (dI0 fun i j => .int (Builtin.bitAnd i j)) da db) := se_op op_and (L_I0 fun _ _ _ _ => rfl) ha hb
theorem se_bor (ha : SE X W a da) (hb : SE X W b db) : SE X W (.BinOp a .BitOr b pos) (dOp (dI0 fun i j => .int (Builtin.bitOr i j)) da db) := se_op op_or (L_I0 fun _ _ _ _ => rfl) ha hb
theorem se_bxor (ha : SE X W a da) (hb : SE X W b db) : SE X W (.BinOp a .BitXor b pos) (dOp (dI0 fun i j => .int (Builtin.bitXor i j)) da db) := se_op op_xor (L_I0 fun _ _ _ _ => rfl) ha hb

/-! ### + -/
/-- t + u, any tuples -/
def rCatT' (K : PySem.W.Frag) : R2 := fun x y H Q => ∃ a b xs ys, x = .ref a ∧ y = .ref b ∧ SqT K H a xs ∧ SqT K H b ys ∧ xs.length + ys.length ≤ sizeLine ∧
  (xs = [] → Q (.ref b) H) ∧ (xs ≠ [] → ys = [] → Q (.ref a) H) ∧ (xs ≠ [] → ys ≠ [] → ∀ p, H p = none → Q (.ref p) (upd H p (.tup (xs ++ ys))))
theorem op_catT' : OpR X (binaryOp .Add) (rCatT' X.K) := by
  intro pins s σ H x y v u Q I rx ry h
  obtain ⟨a, b, xs, ys, rfl, rfl, ha, hb, hz, q0, q1, q2⟩ := h
  by_cases hx : xs = []
  · cases rx
    cases ry
    obtain ⟨its, r1, p1, _⟩ := I.tuple ha
    obtain ⟨its2, r2, p2, _⟩ := I.tuple hb
    have ei : its = [] := r1.nil_iff.mpr hx
    subst ei
    obtain ⟨⟨cls, dd, data, sl⟩, ho, hc, n, hd⟩ := id p1
    obtain ⟨⟨cls2, dd2, data2, sl2⟩, ho2, hc2, n2, hd2⟩ := id p2
    simp only at hc hd hc2 hd2
    subst hc hd hc2 hd2
    exact concat_meets ⟨_, ho, rfl⟩ ⟨_, ho2, rfl⟩ noFill_tuple_add seq_tuple_add PySem.F.slot_tuple_add PySem.F.entry_tuple_add (PySem.F.args_tuple_add_2 _ _)
      (tuple_addW0 a b #[] its2.toArray n n2 dd dd2 sl sl2 rfl) ⟨ho, ho2, ⟨.ref b, H, I, rfl, q0 hx⟩⟩
  · exact op_catT pins s σ H (.ref a) (.ref b) v u Q I rx ry ⟨a, b, xs, ys, rfl, rfl, ha, hb, hx, hz, q1 hx, q2 hx⟩
def dAdd : D2 := fun x y h Q => match x with
  | .int i => ∃ j, y = .int j ∧ Q (.int (i + j)) h
  | .str a => ∃ b, y = .str b ∧ a.length + b.length ≤ sizeLine ∧ Q (.str (a ++ b)) h
  | .tup a => ∃ b, y = .tup b ∧ a.length + b.length ≤ sizeLine ∧ Q (.tup (a ++ b)) h
  | x => ∃ a b, asX h x = some a ∧ asX h y = some b ∧ a.length + b.length ≤ sizeLine ∧ Q (.lst (a ++ b)) h
def rAdd4 (K : PySem.W.Frag) : R2 := fun x y H Q => (rI0 fun i j => .int (i + j)) x y H Q ∨ (∃ i j, x = .str i ∧ y = .str j ∧ i.length + j.length ≤ sizeLine ∧ Q (.str (i ++ j)) H) ∨ rCatT' K x y H Q ∨ rCat x y H Q
theorem op_add4 : OpR X (binaryOp .Add) (rAdd4 X.K) := op_add.or (op_add_str.or (op_catT'.or op_cat))
theorem nil_of_len {α β : Type} {xs : List α} {ys : List β} (h : xs.length = ys.length) : xs = [] ↔ ys = [] := by
  cases xs <;> cases ys <;> simp at h ⊢
theorem L_add {K : PySem.W.Frag} : L2ok K dAdd (rAdd4 K) := by
  intro ρ h H x y vx vy Qd Q hr dx dy w k
  have lists : (∃ a b, asX h x = some a ∧ asX h y = some b ∧ a.length + b.length ≤ sizeLine ∧ Qd (.lst (a ++ b)) h) → rAdd4 K vx vy H Q := by
    rintro ⟨a, b, e1, e2, hz, q⟩
    obtain ⟨p, vs, rfl, h1, d1⟩ := asX_at hr dx e1
    obtain ⟨p', vs', rfl, h2, d2⟩ := asX_at hr dy e2
    refine .inr (.inr (.inr ⟨p, p', vs, vs', rfl, rfl, h1, h2, by rw [d1.length, d2.length]; exact hz, fun n np => ?_⟩))
    exact k ρ _ h _ _ (.new1 np) (hr.new1 np) (.lstNew hr np (d1.append d2)) q
  cases x with
  | int i => obtain ⟨j, rfl, q⟩ := w; exact .inl ⟨i, j, dx, dy, k ρ (.int (i + j)) h _ H .refl hr rfl q⟩
  | str i => obtain ⟨j, rfl, hz, q⟩ := w; exact .inr (.inl ⟨i, j, dx, dy, hz, k ρ (.str (i ++ j)) h _ H .refl hr rfl q⟩)
  | tup a =>
    obtain ⟨b, rfl, hz, q⟩ := w
    have dx' := dx
    have dy' := dy
    obtain ⟨p, vs, rfl, h1, d1⟩ := dx
    obtain ⟨p', vs', rfl, h2, d2⟩ := dy
    refine .inr (.inr (.inl ⟨p, p', vs, vs', rfl, rfl, h1.sq, h2.sq, by rw [d1.length, d2.length]; exact hz, fun e => ?_, fun _ e => ?_, fun _ _ n np => ?_⟩))
    · have ea : a = [] := (nil_of_len d1.length).mp e
      subst ea
      exact k ρ (.tup b) h _ H .refl hr dy' q
    · have eb : b = [] := (nil_of_len d2.length).mp e
      subst eb
      rw [List.append_nil] at q
      exact k ρ (.tup a) h _ H .refl hr dx' q
    · exact k ρ _ h _ _ (.new1 np) (hr.new1 np) (.tupNew hr np (d1.append d2)) q
  | lst a => exact lists w
  | ref a => exact lists w
  | fz a => exact lists w
  | non => exact lists w
  | bl _ => exact lists w
  | obj _ _ => exact lists w
  | ty _ => exact lists w
  | cls _ => exact lists w
theorem se_add (ha : SE X W a da) (hb : SE X W b db) : SE X W (.BinOp a .Add b pos) (dOp dAdd da db) := se_op op_add4 L_add ha hb

/-! ### * -/
def dMul : D2 := fun x y h Q => ∃ j, y = .int j ∧ match x with
  | .int i => CMul i j ∧ Q (.int (i * j)) h
  | .tup a => a ≠ [] ∧ 2 ≤ j ∧ j ≤ 1000 ∧ a.length ≤ 1000 ∧ Q (.tup (List.replicate j.toNat a).flatten) h
  | x => ∃ a, asX h x = some a ∧ -(2 ^ 63) ≤ j ∧ j < 2 ^ 63 ∧ a.length * j.toNat ≤ sizeLine ∧ Q (.lst (List.replicate j.toNat a).flatten) h
theorem DVs.rep {K : PySem.W.Frag} {ρ : List Addr} {H : Hp} {l : List D} {vs : List V} (d : DVs K ρ H l vs) : ∀ k : Nat, DVs K ρ H (List.replicate k l).flatten (List.replicate k vs).flatten
  | 0 => rfl
  | k + 1 => by rw [List.replicate_succ, List.replicate_succ, List.flatten_cons, List.flatten_cons]; exact d.append (DVs.rep d k)
def rMul3 (K : PySem.W.Frag) : R2 := fun x y H Q => (rI CMul fun i j => .int (i * j)) x y H Q ∨ rRepT K x y H Q ∨ rRep x y H Q
theorem op_mul3 : OpR X (binaryOp .Mult) (rMul3 X.K) := op_mul.or (op_repT.or op_rep)
theorem L_mul {K : PySem.W.Frag} : L2ok K dMul (rMul3 K) := by
  intro ρ h H x y vx vy Qd Q hr dx dy w k
  obtain ⟨j, rfl, w⟩ := w
  have ey : vy = .int j := dy
  subst ey
  have lists : (∃ a, asX h x = some a ∧ -(2 ^ 63) ≤ j ∧ j < 2 ^ 63 ∧ a.length * j.toNat ≤ sizeLine ∧ Qd (.lst (List.replicate j.toNat a).flatten) h) → rMul3 K vx (.int j) H Q := by
    rintro ⟨a, e1, b1, b2, hz, q⟩
    obtain ⟨p, vs, rfl, h1, d1⟩ := asX_at hr dx e1
    refine .inr (.inr ⟨p, j, vs, rfl, rfl, h1, b1, b2, by rw [d1.length]; exact hz, fun n np => ?_⟩)
    exact k ρ _ h _ _ (.new1 np) (hr.new1 np) (.lstNew hr np (d1.rep _)) q
  cases x with
  | int i => exact .inl ⟨i, j, dx, rfl, w.1, k ρ (.int (i * j)) h _ H .refl hr rfl w.2⟩
  | tup a =>
    obtain ⟨ha, b1, b2, hz, q⟩ := w
    obtain ⟨p, vs, rfl, h1, d1⟩ := dx
    refine .inr (.inl ⟨p, j, vs, rfl, rfl, h1.sq, fun e => ha ((nil_of_len d1.length).mp e), b1, b2, by rw [d1.length]; exact hz, fun n np => ?_⟩)
    exact k ρ _ h _ _ (.new1 np) (hr.new1 np) (.tupNew hr np (d1.rep _)) q
  | lst a => exact lists w
  | ref a => exact lists w
  | fz a => exact lists w
  | non => exact lists w
  | bl _ => exact lists w
  | obj _ _ => exact lists w
  | ty _ => exact lists w
  | cls _ => exact lists w
  | str _ => exact lists w
theorem se_mul (ha : SE X W a da) (hb : SE X W b db) : SE X W (.BinOp a .Mult b pos) (dOp dMul da db) := se_op op_mul3 L_mul ha hb
/-! ### one operand -/
def dNeg (da : DE) : DE := fun σ h X Q => da σ h X fun d h1 => ∃ i, d = .int i ∧ Q (.int (-i)) h1
def dInv (da : DE) : DE := fun σ h X Q => da σ h X fun d h1 => ∃ i, d = .int i ∧ Q (.int (Builtin.bitNot i)) h1
theorem se_neg (ha : SE X W a da) : SE X W (.UnaryOp .USub a pos) (dNeg da) := by
  refine PE.imp (pe_un un_neg ha) fun σ H Q w => ?_
  obtain ⟨ρ, σd, h, Xd, Qd, hr, sr, w, kx, k⟩ := w
  refine ⟨ρ, σd, h, Xd, _, hr, sr, w, kx, fun ρ1 d1 h1 v1 H1 e1 hr1 dv1 q => ?_⟩
  obtain ⟨i, rfl, q⟩ := q
  exact ⟨i, dv1, k ρ1 (.int (-i)) h1 _ H1 e1 hr1 rfl q⟩
theorem se_inv (ha : SE X W a da) : SE X W (.UnaryOp .Invert a pos) (dInv da) := by
  refine PE.imp (pe_un un_inv ha) fun σ H Q w => ?_
  obtain ⟨ρ, σd, h, Xd, Qd, hr, sr, w, kx, k⟩ := w
  refine ⟨ρ, σd, h, Xd, _, hr, sr, w, kx, fun ρ1 d1 h1 v1 H1 e1 hr1 dv1 q => ?_⟩
  obtain ⟨i, rfl, q⟩ := q
  exact ⟨i, dv1, k ρ1 (.int (Builtin.bitNot i)) h1 _ H1 e1 hr1 rfl q⟩

/-! ### == of data -/
mutual
def toP : D → PyData
  | .non => .none
  | .bl b => .bool b
  | .int i => .int i
  | .str x => .str x
  | .tup l => .tuple (toPs l)
  | .lst l => .list (toPs l)
  | .fz l => .list (toPs l)
  | .ref _ => .none
  | .obj _ _ => .none
  | .ty _ => .none
  | .cls _ => .none
def toPs : List D → List PyData
  | [] => []
  | d :: ds => toP d :: toPs ds
end
/-- data of at most this depth without objects -/
def OkD : Nat → D → Prop
  | _, .non => True
  | _, .bl _ => True
  | _, .int _ => True
  | _, .str x => PyData.strOk x = true
  | n + 1, .tup l => ∀ x ∈ l, OkD n x
  | n + 1, .lst l => ∀ x ∈ l, OkD n x
  | n + 1, .fz l => ∀ x ∈ l, OkD n x
  | _, _ => False
theorem toPs_map : ∀ l : List D, toPs l = l.map toP
  | [] => rfl
  | d :: ds => by rw [toPs, toPs_map ds]; rfl
section
variable {K : PySem.W.Frag} {ρ : List Addr} {H : Hp}
theorem OkD.all {n : Nat} (ih : ∀ d v, OkD n d → DV K ρ H d v → Dp K H v (toP d) ∧ (toP d).canLay0 = true ∧ (toP d).depth ≤ n) : ∀ {l : List D} {vs : List V}, (∀ x ∈ l, OkD n x) → DVs K ρ H l vs → DpAll K H vs (toPs l) ∧ PyData.canLayAll0 (toPs l) = true ∧ PyData.depthAll (toPs l) ≤ n
  | [], _, _, d => by rw [show _ = [] from d]; exact ⟨.nil, rfl, Nat.zero_le _⟩
  | x :: l, _, o, ⟨v, r, e, d1, d2⟩ => by
    subst e
    obtain ⟨a1, a2, a3⟩ := ih x v (o x List.mem_cons_self) d1
    obtain ⟨b1, b2, b3⟩ := OkD.all ih (fun y hy => o y (List.mem_cons_of_mem _ hy)) d2
    exact ⟨.cons a1 b1, by rw [toPs, PyData.canLayAll0, a2, b2]; rfl, by rw [toPs, PyData.depthAll]; exact Nat.max_le.mpr ⟨a3, b3⟩⟩
theorem OkD.dp : ∀ (n : Nat) (d : D) (v : V), OkD n d → DV K ρ H d v → Dp K H v (toP d) ∧ (toP d).canLay0 = true ∧ (toP d).depth ≤ n := by
  intro n
  induction n with
  | zero =>
    intro d v o dv
    cases d with
    | non => have z : v = .non := dv; subst z; exact ⟨.non, rfl, Nat.le_refl _⟩
    | bl b => have z : v = .bl b := dv; subst z; exact ⟨.bl b, rfl, Nat.le_refl _⟩
    | int i => have z : v = .int i := dv; subst z; exact ⟨.int i, rfl, Nat.le_refl _⟩
    | str x => have z : v = .str x := dv; subst z; exact ⟨.str x, o, Nat.le_refl _⟩
    | _ => exact o.elim
  | succ n ih =>
    intro d v o dv
    cases d with
    | non => have z : v = .non := dv; subst z; exact ⟨.non, rfl, Nat.zero_le _⟩
    | bl b => have z : v = .bl b := dv; subst z; exact ⟨.bl b, rfl, Nat.zero_le _⟩
    | int i => have z : v = .int i := dv; subst z; exact ⟨.int i, rfl, Nat.zero_le _⟩
    | str x => have z : v = .str x := dv; subst z; exact ⟨.str x, o, Nat.zero_le _⟩
    | tup l =>
      obtain ⟨a, vs, rfl, h1, h2⟩ := dv
      obtain ⟨b1, b2, b3⟩ := OkD.all ih o h2
      exact ⟨.tup h1.sq b1, b2, Nat.succ_le_succ b3⟩
    | lst l =>
      obtain ⟨a, vs, rfl, h1, h2⟩ := dv
      obtain ⟨b1, b2, b3⟩ := OkD.all ih o h2
      exact ⟨.lst h1.sq b1, b2, Nat.succ_le_succ b3⟩
    | fz l =>
      obtain ⟨a, vs, rfl, h1, h2⟩ := dv
      obtain ⟨b1, b2, b3⟩ := OkD.all ih o h2
      exact ⟨.lst h1.sq b1, b2, Nat.succ_le_succ b3⟩
    | _ => exact o.elim
end
/-- a changing list, as it is now -/
def rz (h : DHp) : D → D
  | .ref i => (match h[i]? with | some (.lst l) => .lst l | _ => .ref i)
  | d => d
def deq (x y : D) : Bool := PyData.eqv (toP x) (toP y)
theorem rz_dp {K : PySem.W.Frag} {ρ : List Addr} {h : DHp} {H : Hp} {d : D} {v : V} (hr : HR K ρ h H) (dv : DV K ρ H d v) (o : OkD 60 (rz h d)) : Dp K H v (toP (rz h d)) ∧ SeqAt.shaped (toP (rz h d)) = true := by
  have fin : ∀ {d : D}, OkD 60 d → DV K ρ H d v → Dp K H v (toP d) ∧ SeqAt.shaped (toP d) = true := fun o dv => by
    obtain ⟨a, b, c⟩ := OkD.dp 60 _ v o dv
    refine ⟨a, ?_⟩
    unfold SeqAt.shaped
    rw [b, decide_eq_true (by omega)]; rfl
  cases d with
  | ref i =>
    have o' : OkD 60 (match h[i]? with | some (.lst l) => .lst l | _ => .ref i) := o
    show Dp K H v (toP (match h[i]? with | some (.lst l) => .lst l | _ => .ref i)) ∧ SeqAt.shaped (toP (match h[i]? with | some (.lst l) => .lst l | _ => .ref i)) = true
    cases q : h[i]? with
    | none => rw [q] at o'; exact o'.elim
    | some b =>
      rw [q] at o'
      cases b with
      | ins c fs => exact o'.elim
      | lst l =>
        obtain ⟨a, vs, rfl, hH, dvs⟩ := asX_at (d := .ref i) (l := l) hr dv (by show (match h[i]? with | some (.lst l) => some l | _ => none) = some l; rw [q])
        obtain ⟨b1, b2, b3⟩ := OkD.all (n := 59) (fun d v => OkD.dp 59 d v) o' dvs
        refine ⟨.lst (.of hH) b1, ?_⟩
        show (PyData.canLayAll0 (toPs l) && decide (PyData.depthAll (toPs l) + 1 ≤ 64)) = true
        rw [b2, decide_eq_true (by omega)]; rfl
  | _ => exact fin o dv
def dEq : D2 := fun x y h Q => OkD 60 (rz h x) ∧ OkD 60 (rz h y) ∧ Q (.bl (deq (rz h x) (rz h y))) h
def dNe : D2 := fun x y h Q => OkD 60 (rz h x) ∧ OkD 60 (rz h y) ∧ Q (.bl (!deq (rz h x) (rz h y))) h
theorem L_eq {K : PySem.W.Frag} : L2ok K dEq (rEqD K) := by
  intro ρ h H x y vx vy Qd Q hr dx dy w k
  obtain ⟨o1, o2, q⟩ := w
  obtain ⟨a1, a2⟩ := rz_dp hr dx o1
  obtain ⟨b1, b2⟩ := rz_dp hr dy o2
  exact ⟨_, _, a1, b1, a2, b2, k ρ (.bl _) h _ H .refl hr rfl q⟩
theorem L_ne {K : PySem.W.Frag} : L2ok K dNe (rNeD K) := by
  intro ρ h H x y vx vy Qd Q hr dx dy w k
  obtain ⟨o1, o2, q⟩ := w
  obtain ⟨a1, a2⟩ := rz_dp hr dx o1
  obtain ⟨b1, b2⟩ := rz_dp hr dy o2
  exact ⟨_, _, a1, b1, a2, b2, k ρ (.bl _) h _ H .refl hr rfl q⟩
theorem dEq_int {i j : Int} {h : DHp} {Q : DK} (q : Q (.bl (i == j)) h) : dEq (.int i) (.int j) h Q := ⟨trivial, trivial, q⟩
theorem dNe_int {i j : Int} {h : DHp} {Q : DK} (q : Q (.bl (!(i == j))) h) : dNe (.int i) (.int j) h Q := ⟨trivial, trivial, q⟩
theorem se_eq (hu : X.A.units + 64 < cLine) (ha : SE X W a da) (hb : SE X W b db) : SE X W (.Compare a [.Eq] [b] pos) (dOp dEq da db) := se_cmp (op_eqD hu) L_eq ha hb
theorem se_ne (hu : X.A.units + 64 < cLine) (ha : SE X W a da) (hb : SE X W b db) : SE X W (.Compare a [.NotEq] [b] pos) (dOp dNe da db) := se_cmp (op_neD hu) L_ne ha hb
theorem st_eq (hu : X.A.units + 64 < cLine) (ha : SE X W a da) (hb : SE X W b db) : ST X W (.Compare a [.Eq] [b] pos) (dTst (dOp dEq da db)) := st_cmp (op_eqD hu) L_eq ha hb
theorem st_ne (hu : X.A.units + 64 < cLine) (ha : SE X W a da) (hb : SE X W b db) : ST X W (.Compare a [.NotEq] [b] pos) (dTst (dOp dNe da db)) := st_cmp (op_neD hu) L_ne ha hb

/-! ### <, <=, >, >= of ints -/
abbrev dCI (p : Int → Int → Bool) : D2 := dI0 fun i j => .bl (p i j)
theorem L_CI {K : PySem.W.Frag} {p : Int → Int → Bool} : L2ok K (dCI p) (rI0 fun i j => .bl (p i j)) := L_I0 fun _ _ _ _ => rfl
theorem se_lt (ha : SE X W a da) (hb : SE X W b db) : SE X W (.Compare a [.Lt] [b] pos) (dOp (dCI fun i j => decide (i < j)) da db) := se_cmp op_lt L_CI ha hb
theorem se_le (ha : SE X W a da) (hb : SE X W b db) : SE X W (.Compare a [.LtE] [b] pos) (dOp (dCI fun i j => decide (i ≤ j)) da db) := se_cmp op_le L_CI ha hb
theorem se_gt (ha : SE X W a da) (hb : SE X W b db) : SE X W (.Compare a [.Gt] [b] pos) (dOp (dCI fun i j => decide (j < i)) da db) := se_cmp op_gt L_CI ha hb
theorem se_ge (ha : SE X W a da) (hb : SE X W b db) : SE X W (.Compare a [.GtE] [b] pos) (dOp (dCI fun i j => decide (j ≤ i)) da db) := se_cmp op_ge L_CI ha hb
theorem st_lt (ha : SE X W a da) (hb : SE X W b db) : ST X W (.Compare a [.Lt] [b] pos) (dTst (dOp (dCI fun i j => decide (i < j)) da db)) := st_cmp op_lt L_CI ha hb
theorem st_le (ha : SE X W a da) (hb : SE X W b db) : ST X W (.Compare a [.LtE] [b] pos) (dTst (dOp (dCI fun i j => decide (i ≤ j)) da db)) := st_cmp op_le L_CI ha hb
theorem st_gt (ha : SE X W a da) (hb : SE X W b db) : ST X W (.Compare a [.Gt] [b] pos) (dTst (dOp (dCI fun i j => decide (j < i)) da db)) := st_cmp op_gt L_CI ha hb
theorem st_ge (ha : SE X W a da) (hb : SE X W b db) : ST X W (.Compare a [.GtE] [b] pos) (dTst (dOp (dCI fun i j => decide (j ≤ i)) da db)) := st_cmp op_ge L_CI ha hb
/-! ### is None -/
def isN : D → Bool
  | .non => true
  | _ => false
theorem isN_at {K : PySem.W.Frag} {ρ : List Addr} {H : Hp} {d : D} {v : V} (dv : DV K ρ H d v) : decide (v = .non) = isN d := by
  cases d with
  | non => have z : v = .non := dv; subst z; rfl
  | bl _ => have z : v = .bl _ := dv; subst z; rfl
  | int _ => have z : v = .int _ := dv; subst z; rfl
  | str _ => have z : v = .str _ := dv; subst z; rfl
  | tup _ => obtain ⟨a, _, rfl, _⟩ := dv; rfl
  | lst _ => obtain ⟨a, _, rfl, _⟩ := dv; rfl
  | fz _ => obtain ⟨a, _, rfl, _⟩ := dv; rfl
  | ref _ => obtain ⟨a, rfl, _⟩ := dv; rfl
  | obj _ _ => obtain ⟨a, _, _, rfl, _⟩ := dv; rfl
  | ty _ => have z : v = .ty _ := dv; subst z; rfl
  | cls _ => have z : v = .ref _ := dv; subst z; rfl
def dIsN : D2 := fun x y h Q => y = .non ∧ Q (.bl (isN x)) h
def dNotN : D2 := fun x y h Q => y = .non ∧ Q (.bl (!isN x)) h
theorem L_isN {K : PySem.W.Frag} : L2ok K dIsN (fun x y H Q => y = .non ∧ Q (.bl (decide (x = .non))) H) := by
  intro ρ h H x y vx vy Qd Q hr dx dy w k
  obtain ⟨rfl, q⟩ := w
  refine ⟨dy, ?_⟩
  rw [isN_at dx]
  exact k ρ (.bl _) h _ H .refl hr rfl q
theorem L_notN {K : PySem.W.Frag} : L2ok K dNotN (fun x y H Q => y = .non ∧ Q (.bl (!decide (x = .non))) H) := by
  intro ρ h H x y vx vy Qd Q hr dx dy w k
  obtain ⟨rfl, q⟩ := w
  refine ⟨dy, ?_⟩
  rw [isN_at dx]
  exact k ρ (.bl _) h _ H .refl hr rfl q
theorem se_isN (ha : SE X W a da) (hb : SE X W b db) : SE X W (.Compare a [.Is] [b] pos) (dOp dIsN da db) := se_cmp op_isN L_isN ha hb
theorem se_notN (ha : SE X W a da) (hb : SE X W b db) : SE X W (.Compare a [.IsNot] [b] pos) (dOp dNotN da db) := se_cmp op_notN L_notN ha hb
theorem st_isN (ha : SE X W a da) (hb : SE X W b db) : ST X W (.Compare a [.Is] [b] pos) (dTst (dOp dIsN da db)) := st_cmp op_isN L_isN ha hb
theorem st_notN (ha : SE X W a da) (hb : SE X W b db) : ST X W (.Compare a [.IsNot] [b] pos) (dTst (dOp dNotN da db)) := st_cmp op_notN L_notN ha hb
/-! ### chains -/
theorem se_chn {o o' : CmpOp} {op op' : D2} {r r' : R2} (ho : OpR X (compareOp o) r) (L : L2ok X.K op r) (ho' : OpR X (compareOp o') r') (L' : L2ok X.K op' r') (ha : SE X W a da) (hb : SE X W b db) (hc : SE X W c dc)
    (h1 : lastMarks [o, o'] [b, c] = false := by with_unfolding_all rfl) : SE X W (.Compare a [o, o'] [b, c] pos) (dChn op op' da db dc) := by
  refine PE.imp (pe_chain ho ho' ha hb hc h1) fun σ H Q w => ?_
  obtain ⟨ρ, σd, h, Xd, Qd, hr, sr, w, kx, k⟩ := w
  refine lE.go hr sr w kx fun ρ1 d1 h1 v1 H1 e1 hr1 sr1 kx1 dv1 w1 => lE.go hr1 sr1 w1 kx1 fun ρ2 d2 h2 v2 H2 e2 hr2 sr2 kx2 dv2 w2 => ?_
  refine L ρ2 h2 H2 d1 d2 v1 v2 _ _ hr2 (dv1.ext e2) dv2 w2 fun ρ3 d3 h3 v3 H3 e3 hr3 dv3 w3 => ?_
  obtain ⟨b, rfl, q1, q2⟩ := w3
  refine ⟨b, dv3, ?_⟩
  cases b with
  | true =>
    refine iteT (lE.go hr3 (sr2.ext e3) (q1 rfl) (kx2.ext e3) fun ρ4 d4 h4 v4 H4 e4 hr4 sr4 kx4 dv4 w4 => ?_)
    exact L' ρ4 h4 H4 d2 d4 v2 v4 Qd Q hr4 (dv2.ext (e3.trans e4)) dv4 w4 fun ρ' d h' v H' e => k ρ' d h' v H' ((((e1.trans e2).trans e3).trans e4).trans e)
  | false => exact iteF (k ρ3 (.bl false) h3 _ H3 ((e1.trans e2).trans e3) hr3 rfl (q2 rfl))
theorem st_chn {o o' : CmpOp} {op op' : D2} {r r' : R2} (ho : OpR X (compareOp o) r) (L : L2ok X.K op r) (ho' : OpR X (compareOp o') r') (L' : L2ok X.K op' r') (ha : SE X W a da) (hb : SE X W b db) (hc : SE X W c dc)
    (h1 : lastMarks [o, o'] [b, c] = false := by with_unfolding_all rfl) : ST X W (.Compare a [o, o'] [b, c] pos) (dTst (dChn op op' da db dc)) := by
  refine PT.imp (pt_chain ho ho' ha hb hc h1) fun σ H Q w => ?_
  obtain ⟨ρ, σd, h, Xd, Qd, hr, sr, w, kx, k⟩ := w
  refine lE.go hr sr w kx fun ρ1 d1 h1 v1 H1 e1 hr1 sr1 kx1 dv1 w1 => lE.go hr1 sr1 w1 kx1 fun ρ2 d2 h2 v2 H2 e2 hr2 sr2 kx2 dv2 w2 => ?_
  refine L ρ2 h2 H2 d1 d2 v1 v2 _ _ hr2 (dv1.ext e2) dv2 w2 fun ρ3 d3 h3 v3 H3 e3 hr3 dv3 w3 => ?_
  obtain ⟨b, rfl, q1, q2⟩ := w3
  refine ⟨b, dv3, ?_⟩
  cases b with
  | true =>
    refine iteT (lE.go hr3 (sr2.ext e3) (q1 rfl) (kx2.ext e3) fun ρ4 d4 h4 v4 H4 e4 hr4 sr4 kx4 dv4 w4 => ?_)
    refine L' ρ4 h4 H4 d2 d4 v2 v4 _ _ hr4 (dv2.ext (e3.trans e4)) dv4 w4 fun ρ' d h' v H' e hr' dv q => ?_
    obtain ⟨b', rfl, q⟩ := q
    exact ⟨b', dv, k ρ' b' h' H' ((((e1.trans e2).trans e3).trans e4).trans e) hr' q⟩
  | false =>
    obtain ⟨b', e', q⟩ := q2 rfl
    cases e'
    exact iteF ⟨false, rfl, k ρ3 false h3 H3 ((e1.trans e2).trans e3) hr3 q⟩
end
end L2.MW

/-! MW, part D: statements, targets, loops. -/
namespace L2.MW
open PySem PySem.Spec PyProof.Rows

/-- what is wanted behind a statement; n0: how many changing things there were at the def's entry -/
structure DEnds where
  nx : DSt → DHp → Prop
  rt : DK
  bk : DSt → DHp → Prop := fun _ _ => False
  ct : DSt → DHp → Prop := fun _ _ => False
  ex : Exc → DSt → DHp → Prop := fun _ _ _ => False
  n0 : Nat := 0
abbrev DS := DEnds → DSt → DHp → Prop
abbrev DEnds.xx (E : DEnds) (σ : DSt) : DX := fun x h => E.ex x σ h
structure EW (K : PySem.W.Frag) (W : WX) (ρ0 : List Addr) (H0 : Hp) (E : DEnds) (Dn : Ends) : Prop where
  n0 : E.n0 = ρ0.length
  nx : ∀ ρ σd h σ H, Ext ρ0 H0 ρ H → HR K ρ h H → SR K ρ H σd σ → E.nx σd h → Dn.nx σ H
  bk : ∀ ρ σd h σ H, Ext ρ0 H0 ρ H → HR K ρ h H → SR K ρ H σd σ → E.bk σd h → Dn.bk σ H
  ct : ∀ ρ σd h σ H, Ext ρ0 H0 ρ H → HR K ρ h H → SR K ρ H σd σ → E.ct σd h → Dn.ct σ H
  rt : ∀ ρ d h v H, Ext ρ0 H0 ρ H → HR K ρ h H → DV K ρ H d v → E.rt d h → Dn.rt v H
  ex : ∀ ρ x σd h cls d σ H, Ext ρ0 H0 ρ H → HR K ρ h H → SR K ρ H σd σ → ExcAt K ρ H x cls d → E.ex x σd h → W cls d σ H
def lS (K : PySem.W.Frag) (W : WX) (t : DS) : TS := fun Dn σ H => ∃ ρ0 H0 ρ σd h E, Ext ρ0 H0 ρ H ∧ HR K ρ h H ∧ SR K ρ H σd σ ∧ t E σd h ∧ EW K W ρ0 H0 E Dn
abbrev SS (X : Cx) (W : WX) (st : List Stmt) (t : DS) : Prop := PSs X st (lS X.K W t)
abbrev S1 (X : Cx) (W : WX) (st : Stmt) (t : DS) : Prop := PS X st (lS X.K W t)
theorem EW.xw {K : PySem.W.Frag} {W : WX} {ρ0 ρ : List Addr} {H0 H : Hp} {E : DEnds} {Dn : Ends} {σd : DSt} {σ : St} (k : EW K W ρ0 H0 E Dn) (e : Ext ρ0 H0 ρ H) : XW K W ρ H σd σ (E.xx σd) :=
  fun ρ' x h' cls d H' e' hr' sr' ea w => k.ex ρ' x σd h' cls d σ H' (e.trans e') hr' sr' ea w

section
variable {X : Cx} {W : WX} {pos : Pos}
def sNil : DS := fun E σ h => E.nx σ h
def sSeq (t u : DS) : DS := fun E σ h => t { E with nx := u E } σ h
theorem ss_nil : SS X W [] sNil := PSs.imp pss_nil fun Dn σ H w => by
  obtain ⟨ρ0, H0, ρ, σd, h, E, e, hr, sr, w, k⟩ := w
  exact k.nx ρ σd h σ H e hr sr w
theorem ss_cons {st : Stmt} {rest : List Stmt} {t u : DS} (h1 : S1 X W st t) (h2 : SS X W rest u) : SS X W (st :: rest) (sSeq t u) := PSs.imp (pss_cons h1 h2) fun Dn σ H w => by
  obtain ⟨ρ0, H0, ρ, σd, h, E, e, hr, sr, w, k⟩ := w
  exact ⟨ρ0, H0, ρ, σd, h, _, e, hr, sr, w, ⟨k.n0, fun ρ' σd' h' σ' H' e' hr' sr' q => ⟨ρ0, H0, ρ', σd', h', E, e', hr', sr', q, k⟩, k.bk, k.ct, k.rt, k.ex⟩⟩
theorem ss_one {st : Stmt} {t : DS} (h1 : S1 X W st t) : SS X W [st] t := pss_one h1
theorem s1_pass : S1 X W (.Pass pos) sNil := PS.imp ps_pass fun Dn σ H w => by
  obtain ⟨ρ0, H0, ρ, σd, h, E, e, hr, sr, w, k⟩ := w
  exact k.nx ρ σd h σ H e hr sr w
def sBrk : DS := fun E σ h => E.bk σ h
def sCont : DS := fun E σ h => E.ct σ h
theorem s1_break : S1 X W (.Break pos) sBrk := PS.imp ps_break fun Dn σ H w => by
  obtain ⟨ρ0, H0, ρ, σd, h, E, e, hr, sr, w, k⟩ := w
  exact k.bk ρ σd h σ H e hr sr w
theorem s1_continue : S1 X W (.Continue pos) sCont := PS.imp ps_continue fun Dn σ H w => by
  obtain ⟨ρ0, H0, ρ, σd, h, E, e, hr, sr, w, k⟩ := w
  exact k.ct ρ σd h σ H e hr sr w
variable {e a b : Expr} {de da db : DE}
def sExpr (de : DE) : DS := fun E σ h => de σ h (E.xx σ) fun _ h1 => E.nx σ h1
theorem s1_expr (he : SE X W e de) (hs : swapsWith e none pos.line X.env = pure false := by rfl) : S1 X W (.Expr e pos) (sExpr de) := PS.imp (ps_expr he hs) fun Dn σ H w => by
  obtain ⟨ρ0, H0, ρ, σd, h, E, e0, hr, sr, w, k⟩ := w
  exact lE.go hr sr w (k.xw e0) fun ρ1 d1 h1 v1 H1 e1 hr1 sr1 kx1 dv1 q => k.nx ρ1 σd h1 σ H1 (e0.trans e1) hr1 sr1 q
def sRet (de : DE) : DS := fun E σ h => de σ h (E.xx σ) E.rt
theorem s1_ret (he : SE X W e de) : S1 X W (.Return (some e) pos) (sRet de) := PS.imp (ps_ret he) fun Dn σ H w => by
  obtain ⟨ρ0, H0, ρ, σd, h, E, e0, hr, sr, w, k⟩ := w
  exact lE.go hr sr w (k.xw e0) fun ρ1 d1 h1 v1 H1 e1 hr1 sr1 kx1 dv1 q => k.rt ρ1 d1 h1 v1 H1 (e0.trans e1) hr1 dv1 q
def sRetN : DS := fun E _ h => E.rt .non h
theorem s1_retN : S1 X W (.Return none pos) sRetN := PS.imp ps_retN fun Dn σ H w => by
  obtain ⟨ρ0, H0, ρ, σd, h, E, e0, hr, sr, w, k⟩ := w
  exact k.rt ρ .non h .non H e0 hr rfl w
def sIf (c : DT) (t u : DS) : DS := fun E σ h => c σ h (E.xx σ) fun b h1 => (b = true → t E σ h1) ∧ (b = false → u E σ h1)
theorem s1_if {c : Expr} {tc : DT} {sa sb : List Stmt} {t u : DS} (hc : ST X W c tc) (ha : SS X W sa t) (hb : SS X W sb u) : S1 X W (.If c sa sb pos) (sIf tc t u) := PS.imp (ps_if hc ha hb) fun Dn σ H w => by
  obtain ⟨ρ0, H0, ρ, σd, h, E, e0, hr, sr, w, k⟩ := w
  refine lT.go hr sr w (k.xw e0) fun ρ1 b1 h1 H1 e1 hr1 sr1 kx1 q => ?_
  cases b1 with
  | true => exact iteT ⟨ρ0, H0, ρ1, σd, h1, E, e0.trans e1, hr1, sr1, q.1 rfl, k⟩
  | false => exact iteF ⟨ρ0, H0, ρ1, σd, h1, E, e0.trans e1, hr1, sr1, q.2 rfl, k⟩
/-- never reached -/
def sNever : DS := fun _ _ _ => False
theorem s1_never {st : Stmt} : S1 X W st sNever := PS.imp ps_never fun Dn σ H w => by
  obtain ⟨ρ0, H0, ρ, σd, h, E, e, hr, sr, w, k⟩ := w
  exact w
theorem ss_never {st : List Stmt} : SS X W st sNever := PSs.imp pss_never fun Dn σ H w => by
  obtain ⟨ρ0, H0, ρ, σd, h, E, e, hr, sr, w, k⟩ := w
  exact w

/-! ### targets -/
abbrev DG := D → DSt → DHp → DX → (DSt → DHp → Prop) → Prop

/-- only these slots changed -/
def Only (T : List Nat) (σ σ' : St) : Prop := σ'.length = σ.length ∧ ∀ i, i ∉ T → σ'[i]? = σ[i]?
theorem Only.refl {T : List Nat} {σ : St} : Only T σ σ := ⟨rfl, fun _ _ => rfl⟩
theorem Only.set {T : List Nat} {σ : St} {i : Nat} {o : Option V} (h : i ∈ T) : Only T σ (σ.set i o) := ⟨List.length_set, fun j hj => List.getElem?_set_ne (fun (z : i = j) => hj (by rw [← z]; exact h))⟩
theorem Only.trans {T : List Nat} {a b c : St} (h : Only T a b) (k : Only T b c) : Only T a c := ⟨k.1.trans h.1, fun i hi => (k.2 i hi).trans (h.2 i hi)⟩
theorem Only.mono {T U : List Nat} {a b : St} (h : Only T a b) (s : ∀ i ∈ T, i ∈ U) : Only U a b := ⟨h.1, fun i hi => h.2 i fun z => hi (s i z)⟩
def lG (K : PySem.W.Frag) (W : WX) (T : List Nat) (t : DG) : TG := fun v σ H Q => ∃ ρ σd h Xd Qd d, HR K ρ h H ∧ SR K ρ H σd σ ∧ DV K ρ H d v ∧ t d σd h Xd Qd ∧ XW K W ρ H σd σ Xd ∧
  ∀ ρ' σd' h' σ' H', Ext ρ H ρ' H' → HR K ρ' h' H' → SR K ρ' H' σd' σ' → Only T σ σ' → Qd σd' h' → Q σ' H'
abbrev SG (X : Cx) (W : WX) (T : List Nat) (tg : Expr) (t : DG) : Prop := PG X tg (lG X.K W T t)
theorem PG.imp {tg : Expr} {t t' : TG} (h : PG X tg t) (i : ∀ v σ H Q, t' v σ H Q → t v σ H Q) : PG X tg t' := ⟨fun pins s σ H v u Q I r w => h.run pins s σ H v u Q I r (i v σ H Q w)⟩
def tgN (i : Nat) : DG := fun d σ h _ Q => Q (σ.set i (some d)) h
theorem sg_name {i : Nat} {x : Str} (hN : X.N.Nodup) (hi : X.N[i]? = some x := by rfl) (hx : Loc X.env.scope x := by first | exact Or.inl rfl | exact Or.inr rfl)
    (hf : X.fn x = true ∨ X.env.scope.names.lookup x = some .local := by first | exact .inl rfl | exact .inr rfl | assumption) : SG X W [i] (.Name x pos) (tgN i) := PG.imp (pg_name hN hi hx hf) fun v σ H Q w => by
  obtain ⟨ρ, σd, h, Xd, Qd, d, hr, sr, dv, w, kx, k⟩ := w
  exact k ρ _ h _ H .refl hr (sr.set dv) (.set List.mem_cons_self) w
/-- several targets -/
abbrev DGs := List D → DSt → DHp → DX → (DSt → DHp → Prop) → Prop
def lGs (K : PySem.W.Frag) (W : WX) (T : List Nat) (t : DGs) : TGs := fun vs σ H Q => ∃ ρ σd h Xd Qd ds, HR K ρ h H ∧ SR K ρ H σd σ ∧ DVs K ρ H ds vs ∧ t ds σd h Xd Qd ∧
  ∀ ρ' σd' h' σ' H', Ext ρ H ρ' H' → HR K ρ' h' H' → SR K ρ' H' σd' σ' → Only T σ σ' → Qd σd' h' → Q σ' H'
abbrev SGs (X : Cx) (W : WX) (T : List Nat) (tg : List Expr) (t : DGs) : Prop := PGs X tg (lGs X.K W T t)
def tgsNil : DGs := fun ds σ h _ Q => ds = [] ∧ Q σ h
def tgsCons (t : DG) (u : DGs) : DGs := fun ds σ h X Q => ∃ d r, ds = d :: r ∧ t d σ h (fun _ _ => False) fun σ' h' => u r σ' h' X Q
theorem PGs.imp {tg : List Expr} {t t' : TGs} (h : PGs X tg t) (i : ∀ v σ H Q, t' v σ H Q → t v σ H Q) : PGs X tg t' := ⟨fun pins s σ H v u Q I r w => h.run pins s σ H v u Q I r (i v σ H Q w)⟩
theorem sgs_nil {T : List Nat} : SGs X W T [] tgsNil := PGs.imp pgs_nil fun vs σ H Q w => by
  obtain ⟨ρ, σd, h, Xd, Qd, ds, hr, sr, dv, ⟨rfl, w⟩, k⟩ := w
  exact ⟨dv, k ρ _ h _ H .refl hr sr .refl w⟩
theorem sgs_cons {T U : List Nat} {tg : Expr} {tgs : List Expr} {t : DG} {u : DGs} (h1 : SG X W T tg t) (h2 : SGs X W U tgs u)
    (hq : (assignEach (tg :: tgs) X.env).map (·.2) = assign tg X.env :: (assignEach tgs X.env).map (·.2) := by rfl) : SGs X W (T ++ U) (tg :: tgs) (tgsCons t u) := PGs.imp (pgs_cons h1 h2 hq) fun vs σ H Q w => by
  obtain ⟨ρ, σd, h, Xd, Qd, ds, hr, sr, dv, ⟨d, r, rfl, w⟩, k⟩ := w
  obtain ⟨v, vr, rfl, dv1, dv2⟩ := dv
  refine ⟨v, vr, rfl, ρ, σd, h, _, _, d, hr, sr, dv1, w, fun _ _ _ _ _ _ _ _ _ _ z => z.elim, fun ρ1 σd1 h1 σ1 H1 e1 hr1 sr1 on1 q => ?_⟩
  exact ⟨ρ1, σd1, h1, Xd, Qd, r, hr1, sr1, DVs.ext e1 _ _ dv2, q, fun ρ' σd' h' σ' H' e hr' sr' on' => k ρ' σd' h' σ' H' (e1.trans e) hr' sr' ((on1.mono fun _ z => List.mem_append_left _ z).trans (on'.mono fun _ z => List.mem_append_right _ z))⟩

/-- (a, b, ..) = a tuple -/
def tgTup (n : Nat) (u : DGs) : DG := fun d σ h X Q => ∃ l, d = .tup l ∧ l.length = n ∧ u l σ h X Q
theorem sg_tup {T : List Nat} {es : List Expr} {k n : Nat} {u : DGs} (hc : X.calm = true) (hu : SGs X W T es u) (hn : (assignEach es X.env).length = n := by rfl) (hst : (assignEach es X.env).findIdx? (·.1) = none := by rfl) :
    SG X W T (.Tuple es k pos) (tgTup n u) := PG.imp (pg_tup hc hu hn hst) fun v σ H Q w => by
  obtain ⟨ρ, σd, h, Xd, Qd, d, hr, sr, dv, ⟨l, rfl, hl, w⟩, kx, k⟩ := w
  obtain ⟨a, vs, rfl, h1, h2⟩ := dv
  exact ⟨a, vs, rfl, h1.sq, by rw [h2.length]; exact hl, ρ, σd, h, Xd, Qd, l, hr, sr, h2, w, k⟩
/-- o[i] = d, o a list that changes -/
def tgSub (dd di : DE) : DG := fun d σ h X Q => dd σ h X fun x h1 => di σ h1 X fun y h2 => ∃ j l k n, x = .ref j ∧ y = .int k ∧ h2[j]? = some (.lst l) ∧ ixN l.length k = some n ∧ Q σ (h2.set j (.lst (l.set n d)))
theorem ref_lst {K : PySem.W.Frag} {ρ : List Addr} {h : DHp} {H : Hp} {j : Nat} {l : List D} {v : V} (hr : HR K ρ h H) (dv : DV K ρ H (.ref j) v) (e : h[j]? = some (.lst l)) : ∃ a vs, v = .ref a ∧ ρ[j]? = some a ∧ H a = some (.lst vs) ∧ DVs K ρ H l vs := by
  obtain ⟨a, rfl, hj⟩ := dv
  obtain ⟨vs, h1, h2⟩ := hr.at_ j _ a e hj
  exact ⟨a, vs, rfl, hj, h1, h2⟩
/-- a changing list is written -/
theorem write_lst {K : PySem.W.Frag} {ρ : List Addr} {h : DHp} {H : Hp} {j : Nat} {l : List D} {a : Addr} {vs : List V} (hr : HR K ρ h H) (hj : ρ[j]? = some a) (d : DVs K ρ H l vs) :
    HR K ρ (h.set j (.lst l)) (upd H a (.lst vs)) ∧ Ext ρ H ρ (upd H a (.lst vs)) := by
  have e : Ext ρ H ρ (upd H a (.lst vs)) := .write (List.mem_of_getElem? hj)
  exact ⟨hr.write hj ⟨vs, upd_same, DVs.ext e _ _ d⟩, e⟩
theorem sg_sub {o i : Expr} {dd di : DE} (ho : SE X W o dd) (hi : SE X W i di) (ha : ∀ v, assign (.Subscript o i pos) X.env v = (do
      let ov ← holding [v] (eval o X.env)
      let iv ← holding [v, ov] (eval i X.env)
      standAt pos
      holding [v, ov, iv] (setItem ov iv v)
      release [v, ov, iv] []) := by intros; rfl) : SG X W [] (.Subscript o i pos) (tgSub dd di) := PG.imp (pg_sub ho hi set_list ha) fun v σ H Q w => by
  obtain ⟨ρ, σd, h, Xd, Qd, d, hr, sr, dv, w, kx, k⟩ := w
  refine lE.go hr sr w kx fun ρ1 d1 h1 v1 H1 e1 hr1 sr1 kx1 dv1 w1 => lE.go hr1 sr1 w1 kx1 fun ρ2 d2 h2 v2 H2 e2 hr2 sr2 kx2 dv2 w2 => ?_
  obtain ⟨j, l, kk, n, rfl, rfl, hj, hn, q⟩ := w2
  obtain ⟨a, vs, rfl, hja, hH, dvs⟩ := ref_lst hr2 (dv1.ext e2) hj
  refine ⟨a, vs, kk, n, rfl, dv2, hH, by rw [dvs.length]; exact hn, ?_⟩
  obtain ⟨a1, a2⟩ := write_lst hr2 hja (dvs.set (dv.ext (e1.trans e2)) n)
  exact k ρ2 _ _ _ _ ((e1.trans e2).trans a2) a1 (sr2.ext a2) .refl q

/-! ### assignments -/
def sSet (i : Nat) (de : DE) : DS := fun E σ h => de σ h (E.xx σ) fun d h1 => E.nx (σ.set i (some d)) h1
theorem s1_set (i : Nat) {x : Str} {pos' : Pos} (hN : X.N.Nodup) (he : SE X W e de) (hi : X.N[i]? = some x := by rfl) (hx : Loc X.env.scope x := by first | exact Or.inl rfl | exact Or.inr rfl) (hs : swapsWith e (some (.Name x pos')) pos.line X.env = pure false := by rfl)
    (hf : X.fn x = true ∨ X.env.scope.names.lookup x = some .local := by first | exact .inl rfl | exact .inr rfl | assumption) : S1 X W (.Assign [.Name x pos'] e pos) (sSet i de) := PS.imp (ps_set hN hi hx he hs hf) fun Dn σ H w => by
  obtain ⟨ρ0, H0, ρ, σd, h, E, e0, hr, sr, w, k⟩ := w
  exact lE.go hr sr w (k.xw e0) fun ρ1 d1 h1 v1 H1 e1 hr1 sr1 kx1 dv1 q => k.nx ρ1 _ h1 _ H1 (e0.trans e1) hr1 (sr1.set dv1) q
def sAsg (de : DE) (g : DG) : DS := fun E σ h => de σ h (E.xx σ) fun d h1 => g d σ h1 (E.xx σ) E.nx
theorem s1_asg {T : List Nat} {tg : Expr} {g : DG} (he : SE X W e de) (hg : SG X W T tg g) (hs : swapsWithSole [tg] e pos.line X.env = pure false := by rfl) (hw : swappedStores [tg] e X.env = pure none := by rfl)
    (h1 : (assignEach [tg] X.env).map (·.2) = [assign tg X.env] := by rfl) : S1 X W (.Assign [tg] e pos) (sAsg de g) := PS.imp (ps_asg he hg hs hw h1) fun Dn σ H w => by
  obtain ⟨ρ0, H0, ρ, σd, h, E, e0, hr, sr, w, k⟩ := w
  refine lE.go hr sr w (k.xw e0) fun ρ1 d1 h1 v1 H1 e1 hr1 sr1 kx1 dv1 q => ?_
  exact ⟨ρ1, σd, h1, _, _, d1, hr1, sr1, dv1, q, kx1, fun ρ' σd' h' σ' H' e' hr' sr' _ q => k.nx ρ' σd' h' σ' H' ((e0.trans e1).trans e') hr' sr' q⟩
/-- a, b = x, y -/
def sPar (i j : Nat) (ts : DA) : DS := fun E σ h => ts σ h (E.xx σ) fun ds h1 => ∃ c d, ds = [c, d] ∧ E.nx ((σ.set i (some c)).set j (some d)) h1
/-- x op= e -/
def sAug (i : Nat) (de : DE) (op : D2) : DS := fun E σ h => ∃ c, σ[i]? = some (some c) ∧ de σ h (E.xx σ) fun d h1 => op c d h1 fun z h2 => E.nx (σ.set i (some z)) h2
theorem s1_augI (i : Nat) {x : Str} {pos' : Pos} {o : Operator} {tip : TIp} {op : D2} (L : L2ok X.K op tip) (hN : X.N.Nodup) (ho : PIp X o tip) (he : SE X W e de) (hi : X.N[i]? = some x := by rfl) (hx : Loc X.env.scope x := by first | exact Or.inl rfl | exact Or.inr rfl)
    (hf : X.fn x = true ∨ X.env.scope.names.lookup x = some .local := by first | exact .inl rfl | exact .inr rfl | assumption) : S1 X W (.AugAssign (.Name x pos') o e pos) (sAug i de op) := PS.imp (ps_aug hN hi hx he ho hf) fun Dn σ H w => by
  obtain ⟨ρ0, H0, ρ, σd, h, E, e0, hr, sr, w, k⟩ := w
  obtain ⟨c, hc, w⟩ := w
  obtain ⟨v, hv, dv⟩ := sr.at_ i c hc
  refine ⟨v, hv, lE.go hr sr w (k.xw e0) fun ρ1 d1 h1 v1 H1 e1 hr1 sr1 kx1 dv1 q => ?_⟩
  exact L ρ1 h1 H1 c d1 v v1 _ _ hr1 (dv.ext e1) dv1 q fun ρ2 d2 h2 v2 H2 e2 hr2 dv2 q2 => k.nx ρ2 _ h2 _ H2 ((e0.trans e1).trans e2) hr2 ((sr1.ext e2).set dv2) q2
theorem ip_bor : PIp X .BitOr (rI0 fun i j => .int (Builtin.bitOr i j)) := by
  intro pins s σ H x y v u Q I r1 r2 h
  exact iop_or pins s σ H x y v u Q I r1 r2 h
theorem ip_add0 : PIp X .Add (rI0 fun i j => .int (i + j)) := by
  intro pins s σ H x y v u Q I r1 r2 h
  exact iop_add pins s σ H x y v u Q I r1 r2 h
theorem s1_aadd (i : Nat) {x : Str} {pos' : Pos} (hN : X.N.Nodup) (he : SE X W e de) (hi : X.N[i]? = some x := by rfl) (hx : Loc X.env.scope x := by first | exact Or.inl rfl | exact Or.inr rfl)
    (hf : X.fn x = true ∨ X.env.scope.names.lookup x = some .local := by first | exact .inl rfl | exact .inr rfl | assumption) : S1 X W (.AugAssign (.Name x pos') .Add e pos) (sAug i de (dI0 fun i j => .int (i + j))) :=
  s1_augI i (tip := rI0 fun i j => .int (i + j)) (L_I0 fun _ _ _ _ => rfl) hN ip_add0 he hi hx hf
theorem s1_abor (i : Nat) {x : Str} {pos' : Pos} (hN : X.N.Nodup) (he : SE X W e de) (hi : X.N[i]? = some x := by rfl) (hx : Loc X.env.scope x := by first | exact Or.inl rfl | exact Or.inr rfl)
    (hf : X.fn x = true ∨ X.env.scope.names.lookup x = some .local := by first | exact .inl rfl | exact .inr rfl | assumption) : S1 X W (.AugAssign (.Name x pos') .BitOr e pos) (sAug i de (dI0 fun i j => .int (Builtin.bitOr i j))) :=
  s1_augI i (tip := rI0 fun i j => .int (Builtin.bitOr i j)) (L_I0 fun _ _ _ _ => rfl) hN ip_bor he hi hx hf
/-- self.f = e, in a making -/
def putD (f : Str) (d : D) : List (Str × D) → List (Str × D)
  | [] => [(f, d)]
  | p :: r => if p.1 = f then (p.1, d) :: r else p :: putD f d r
def sFldD (cs : List String) (f : Str) (da dv : DE) : DS := fun E σ h => dv σ h (E.xx σ) fun d h1 => da σ h1 (E.xx σ) fun x h2 => ∃ i c fs, c ∈ cs ∧ x = .ref i ∧ h2[i]? = some (.ins c fs) ∧ fs.length < 1000 ∧ fs.lookup f = none ∧ E.nx σ (h2.set i (.ins c (fs ++ [(f, d)])))
theorem putF_new (f : Str) (v : V) : ∀ fs : List (Str × V), fs.lookup f = none → putF f v fs = fs ++ [(f, v)]
  | [], _ => rfl
  | (g, w) :: r, h => by
    rw [List.lookup_cons] at h
    have hg : ¬ (g = f) := fun z => by subst z; simp at h
    have h2 : r.lookup f = none := by
      cases q : f == g with
      | true => rw [q] at h; cases h
      | false => rw [q] at h; exact h
    have ih := putF_new f v r h2
    simp only [putF, List.cons_append]
    first
      | rw [if_neg hg, ih]
      | (rw [if_neg (fun z => hg z.symm), ih])
      | (simp [hg, ih])
theorem DFs.append1 {K : PySem.W.Frag} {ρ : List Addr} {H : Hp} {f : Str} {d : D} {v : V} (q : DV K ρ H d v) : ∀ {fs : List (Str × D)} {ws : List (Str × V)}, DFs K ρ H fs ws → DFs K ρ H (fs ++ [(f, d)]) (ws ++ [(f, v)])
  | [], _, h => by rw [show _ = [] from h]; exact ⟨v, [], rfl, q, rfl⟩
  | p :: fs, _, ⟨u, r, e1, h1, h2⟩ => by subst e1; exact ⟨u, r ++ _, rfl, h1, DFs.append1 q h2⟩
theorem s1_fld {cs : List String} {f : Str} {pos' : Pos} (hf : FldOk X.K cs f) (ha : SE X W a da) (hv : SE X W b db) (hs : swapsWith b (some (.Attribute a f pos')) pos.line X.env = pure false := by rfl) : S1 X W (.Assign [.Attribute a f pos'] b pos) (sFldD cs f da db) := PS.imp (ps_fld ha hv hs) fun Dn σ H w => by
  obtain ⟨ρ0, H0, ρ, σd, h, E, e0, hr, sr, w, k⟩ := w
  refine lE.go hr sr w (k.xw e0) fun ρ1 d1 h1 v1 H1 e1 hr1 sr1 kx1 dv1 w1 => lE.go hr1 sr1 w1 kx1 fun ρ2 d2 h2 v2 H2 e2 hr2 sr2 kx2 dv2 w2 => ?_
  obtain ⟨i, c, fs, hc, rfl, hi, hl, hn, q⟩ := w2
  obtain ⟨hcl, hna⟩ := hf c hc
  obtain ⟨p, rfl, hp⟩ := dv2
  obtain ⟨dx, ws, hH, dfs⟩ := hr2.at_ i _ p hi hp
  have hl' := dfs.length
  refine ⟨p, _, dx, ws, rfl, hH, hcl, hna, by omega, ?_⟩
  rw [putF_new f v1 ws (dfs.lookup_none hn)]
  have ee : Ext ρ2 H2 ρ2 (upd H2 p (.ins (He.ga X.K (Str.ofString c)) dx (ws ++ [(f, v1)]))) := .write (List.mem_of_getElem? hp)
  exact k.nx ρ2 _ _ _ _ (((e0.trans e1).trans e2).trans ee) (hr2.write (b := .ins c (fs ++ [(f, d1)])) hp ⟨dx, _, upd_same, DFs.ext ee _ _ (dfs.append1 (dv1.ext e2))⟩) (sr2.ext ee) q

/-! ### loops -/
/-- what is walked: the items, and what must hold of the changing heap at every turn -/
abbrev DI := DSt → DHp → DX → (List D → (DHp → Prop) → DHp → Prop) → Prop
def ItAt (K : PySem.W.Frag) (ρ0 : List Addr) (H0 : Hp) (items : List D) (G : DHp → Prop) (J : It) : Prop := ∀ ρ h H i, Ext ρ0 H0 ρ H → HR K ρ h H → G h →
  (∀ d, items[i]? = some d → J.go i H ∧ ∀ v H', J.yld i H v H' → Ext ρ H ρ H' ∧ HR K ρ h H' ∧ DV K ρ H' d v) ∧ (items.length ≤ i → J.stop i H)
def lI (K : PySem.W.Frag) (W : WX) (t : DI) : TI := fun σ H R => ∃ ρ σd h Xd Qd, HR K ρ h H ∧ SR K ρ H σd σ ∧ t σd h Xd Qd ∧ XW K W ρ H σd σ Xd ∧
  ∀ ρ' items G h' J H', Ext ρ H ρ' H' → HR K ρ' h' H' → ItAt K ρ' H' items G J → Qd items G h' → R J H'
abbrev SI (X : Cx) (W : WX) (tg e : Expr) (t : DI) : Prop := PI X tg e (lI X.K W t)
theorem PI.imp {tg e : Expr} {t t' : TI} (h : PI X tg e t) (i : ∀ σ H Q, t' σ H Q → t σ H Q) : PI X tg e t' := ⟨fun pins s σ H Q I w => h.run pins s σ H Q I (i σ H Q w)⟩
theorem lI.go {K : PySem.W.Frag} {W : WX} {ρ : List Addr} {σd : DSt} {h : DHp} {H : Hp} {σ : St} {t : DI} {Xd : DX} {Qd : List D → (DHp → Prop) → DHp → Prop} {R : It → Hp → Prop} (hr : HR K ρ h H) (sr : SR K ρ H σd σ) (w : t σd h Xd Qd) (kx : XW K W ρ H σd σ Xd)
    (k : ∀ ρ' items G h' J H', Ext ρ H ρ' H' → HR K ρ' h' H' → SR K ρ' H' σd σ → XW K W ρ' H' σd σ Xd → ItAt K ρ' H' items G J → Qd items G h' → R J H') : lI K W t σ H R :=
  ⟨ρ, σd, h, Xd, Qd, hr, sr, w, kx, fun ρ' items G h' J H' e hr' it q => k ρ' items G h' J H' e hr' (sr.ext e) (kx.ext e) it q⟩
def forW (tb : DS) (g : DG) (G : DHp → Prop) (E : DEnds) : List D → DSt → DHp → Prop
  | [], σ, h => G h ∧ E.nx σ h
  | x :: xs, σ, h => G h ∧ g x σ h (E.xx σ) fun σ' h' => tb { E with nx := forW tb g G E xs, ct := forW tb g G E xs, bk := E.nx } σ' h'
def sFor (ti : DI) (g : DG) (tb : DS) : DS := fun E σ h => ti σ h (E.xx σ) fun items G h1 => forW tb g G { E with n0 := h1.length } items σ h1
theorem forW_G {tb : DS} {g : DG} {G : DHp → Prop} {E : DEnds} {xs : List D} {σ : DSt} {h : DHp} (w : forW tb g G E xs σ h) : G h := by
  cases xs <;> exact w.1
theorem s1_for {T : List Nat} {tg iter : Expr} {body : List Stmt} {ti : DI} {g : DG} {tb : DS} (hp : PassesOwn (model X.prog X.w) X.A X.env X.xe) (hc : X.calm = true) (hi : SI X W tg iter ti) (hg : SG X W T tg g) (hb : SS X W body tb)
    (hs : ∀ x, foldedSetIterable iter X.env x = pure x := by intro _; rfl) : S1 X W (.For tg iter body [] pos) (sFor ti g tb) := by
  refine PS.imp (ps_for hp hc hi hg hb hs) fun Dn σ H w => ?_
  obtain ⟨ρ0, H0, ρ, σd, h, E, e0, hr, sr, w, k⟩ := w
  refine lI.go hr sr w (k.xw e0) fun ρ1 items G h1 J H1 e1 hr1 sr1 kx1 it w1 => ?_
  have e01 := e0.trans e1
  refine ⟨fun i m σ H => m = items.length - i ∧ i ≤ items.length ∧ ∃ ρ2 σd2 h2, Ext ρ1 H1 ρ2 H ∧ HR X.K ρ2 h2 H ∧ SR X.K ρ2 H σd2 σ ∧ forW tb g G { E with n0 := h1.length } (items.drop i) σd2 h2, ⟨items.length, rfl, Nat.zero_le _, ρ1, σd, h1, .refl, hr1, sr1, w1⟩, ?_⟩
  rintro i m σ2 H2 ⟨rfl, hi, ρ2, σd2, h2, e12, hr2, sr2, w2⟩
  obtain ⟨itg, its⟩ := it ρ2 h2 H2 i e12 hr2 (forW_G w2)
  by_cases hlt : i < items.length
  · refine .inr ?_
    obtain ⟨go, yl⟩ := itg _ (List.getElem?_eq_getElem hlt)
    rw [List.drop_eq_getElem_cons hlt] at w2
    have w2' := w2.2
    refine ⟨go, fun σ' H' => ∃ ρ3 σd3 h3, Ext ρ1 H1 ρ3 H' ∧ HR X.K ρ3 h3 H' ∧ SR X.K ρ3 H' σd3 σ' ∧ forW tb g G { E with n0 := h1.length } (items.drop (i + 1)) σd3 h3, fun σ' H' n => ⟨items.length - (i + 1), by omega, rfl, hlt, n⟩, fun x H' y => ?_⟩
    obtain ⟨ey, hry, dvy⟩ := yl x H' y
    refine ⟨ρ2, σd2, h2, _, _, _, hry, sr2.ext ey, dvy, w2', k.xw ((e01.trans e12).trans ey), fun ρ3 σd3 h3 σ3 H3 e3 hr3 sr3 _ w3 => ?_⟩
    have e13 : Ext ρ1 H1 ρ3 H3 := (e12.trans ey).trans e3
    refine ⟨ρ1, H1, ρ3, σd3, h3, _, e13, hr3, sr3, w3, ⟨hr1.len.symm, ?_, ?_, ?_, ?_, ?_⟩⟩
    · exact fun ρ4 σd4 h4 σ4 H4 e4 hr4 sr4 q4 => ⟨ρ4, σd4, h4, e4, hr4, sr4, q4⟩
    · exact fun ρ4 σd4 h4 σ4 H4 e4 hr4 sr4 q4 => k.nx ρ4 σd4 h4 σ4 H4 (e01.trans e4) hr4 sr4 q4
    · exact fun ρ4 σd4 h4 σ4 H4 e4 hr4 sr4 q4 => ⟨ρ4, σd4, h4, e4, hr4, sr4, q4⟩
    · exact fun ρ4 d4 h4 v4 H4 e4 => k.rt ρ4 d4 h4 v4 H4 (e01.trans e4)
    · exact fun ρ4 x4 σd4 h4 c4 d4 σ4 H4 e4 => k.ex ρ4 x4 σd4 h4 c4 d4 σ4 H4 (e01.trans e4)
  · exact .inl ⟨its (Nat.le_of_not_lt hlt), by
      rw [List.drop_eq_nil_of_le (Nat.le_of_not_lt hlt)] at w2
      exact k.nx ρ2 σd2 h2 σ2 H2 (e01.trans e12) hr2 sr2 w2.2⟩

/-! ### what is walked -/
theorem it_list {K : PySem.W.Frag} {ρ0 : List Addr} {H0 : Hp} {a : Addr} {l : List D} {G : DHp → Prop} (hq : ∀ ρ h H, Ext ρ0 H0 ρ H → HR K ρ h H → G h → ∃ vs, SqL K H a vs ∧ DVs K ρ H l vs) : ItAt K ρ0 H0 l G (Itl K a) := by
  intro ρ h H i e hr g
  obtain ⟨vs, q, dvs⟩ := hq ρ h H e hr g
  refine ⟨fun d hd => ?_, fun hl => ⟨vs, q, by rw [dvs.length]; exact hl⟩⟩
  obtain ⟨v, hv, dv⟩ := dvs.get hd
  refine ⟨⟨vs, v, q, hv⟩, fun u H' y => ?_⟩
  obtain ⟨rfl, y⟩ := y
  have z := y vs q
  rw [hv] at z; cases z
  exact ⟨.refl, hr, dv⟩
theorem it_tup {K : PySem.W.Frag} {ρ0 : List Addr} {H0 : Hp} {a : Addr} {l : List D} {G : DHp → Prop} (hq : ∀ ρ h H, Ext ρ0 H0 ρ H → HR K ρ h H → G h → ∃ vs, SqT K H a vs ∧ DVs K ρ H l vs) : ItAt K ρ0 H0 l G (Itt K a) := by
  intro ρ h H i e hr g
  obtain ⟨vs, q, dvs⟩ := hq ρ h H e hr g
  refine ⟨fun d hd => ?_, fun hl => ⟨vs, q, by rw [dvs.length]; exact hl⟩⟩
  obtain ⟨v, hv, dv⟩ := dvs.get hd
  refine ⟨⟨vs, v, q, hv⟩, fun u H' y => ?_⟩
  obtain ⟨rfl, y⟩ := y
  have z := y vs q
  rw [hv] at z; cases z
  exact ⟨.refl, hr, dv⟩
/-- a list's guard: a changing one must stand -/
def gdL (d : D) (l : List D) : DHp → Prop := fun h => asL h d = some l
/-- a list -/
def iL (de : DE) : DI := fun σ h X Q => de σ h X fun d h1 => ∃ l, asL h1 d = some l ∧ Q l (gdL d l) h1
def iT (de : DE) : DI := fun σ h X Q => de σ h X fun d h1 => ∃ l, d = .tup l ∧ Q l (fun _ => True) h1
/-- range(lo, lo + n) -/
def rgD (lo : Int) (n : Nat) : List D := (List.range n).map fun (i : Nat) => D.int (lo + (i : Int))
theorem si_list (he : SE X W e de) {tg : Expr} : SI X W tg e (iL de) := PI.imp (pi_list he) fun σ H R w => by
  obtain ⟨ρ, σd, h, Xd, Qd, hr, sr, w, kx, k⟩ := w
  refine ⟨ρ, σd, h, Xd, _, hr, sr, w, kx, fun ρ1 d h1 v H1 e1 hr1 dv q => ?_⟩
  obtain ⟨l, el, q⟩ := q
  obtain ⟨a, vs, rfl, hq, dvs⟩ := asL_at hr1 dv el
  refine ⟨a, rfl, ⟨vs, hq⟩, k ρ1 l _ h1 _ H1 e1 hr1 (it_list fun ρ2 h2 H2 e2 hr2 g2 => ?_) q⟩
  obtain ⟨a', vs', e', hq', dvs'⟩ := asL_at hr2 (dv.ext e2) g2
  cases e'
  exact ⟨vs', hq', dvs'⟩
theorem si_tup (he : SE X W e de) {tg : Expr} : SI X W tg e (iT de) := PI.imp (pi_tup he) fun σ H R w => by
  obtain ⟨ρ, σd, h, Xd, Qd, hr, sr, w, kx, k⟩ := w
  refine ⟨ρ, σd, h, Xd, _, hr, sr, w, kx, fun ρ1 d h1 v H1 e1 hr1 dv q => ?_⟩
  obtain ⟨l, rfl, q⟩ := q
  obtain ⟨a, vs, rfl, hq, dvs⟩ := dv
  exact ⟨a, rfl, ⟨vs, hq.sq⟩, k ρ1 l _ h1 _ H1 e1 hr1 (it_tup fun ρ2 h2 H2 e2 hr2 g2 => ⟨vs, (hq.ext e2).sq, DVs.ext e2 _ _ dvs⟩) q⟩
theorem it_range {K : PySem.W.Frag} {ρ0 : List Addr} {H0 : Hp} {lo : Int} {n : Nat} {G : DHp → Prop} : ItAt K ρ0 H0 (rgD lo n) G (Itr lo n) := by
  intro ρ h H i e hr g
  have hl : (rgD lo n).length = n := by unfold rgD; rw [List.length_map, List.length_range]
  refine ⟨fun d hd => ?_, fun z => by rw [hl] at z; exact z⟩
  have hi : i < n := by have := (List.getElem?_eq_some_iff.mp hd).1; rwa [hl] at this
  refine ⟨hi, fun u H' y => ?_⟩
  obtain ⟨rfl, rfl⟩ := y
  unfold rgD at hd
  rw [List.getElem?_map, List.getElem?_range hi] at hd
  cases hd
  exact ⟨.refl, hr, rfl⟩
def RgD (i j : Int) : Prop := -(2 ^ 62) ≤ i ∧ i < 2 ^ 62 ∧ -(2 ^ 62) ≤ j ∧ j < 2 ^ 62
def iR1 (ts : DA) : DI := fun σ h X Q => ts σ h X fun ds h1 => ∃ j, ds = [.int j] ∧ RgD 0 j ∧ Q (rgD 0 j.toNat) (fun _ => True) h1
def iR2 (ts : DA) : DI := fun σ h X Q => ts σ h X fun ds h1 => ∃ i j, ds = [.int i, .int j] ∧ RgD i j ∧ Q (rgD i (j - i).toNat) (fun _ => True) h1
end
end L2.MW

/-! MW, part E: while, comprehensions. -/
namespace L2.MW
open PySem PySem.Spec PyProof.Rows

/-! ### refs below a bound -/
mutual
def Bd (n : Nat) : D → Prop
  | .ref i => i < n
  | .tup l => Bds n l
  | .lst l => Bds n l
  | .fz l => Bds n l
  | .obj _ fs => BdF n fs
  | _ => True
def Bds (n : Nat) : List D → Prop
  | [] => True
  | d :: ds => Bd n d ∧ Bds n ds
def BdF (n : Nat) : List (Str × D) → Prop
  | [] => True
  | p :: ps => Bd n p.2 ∧ BdF n ps
end
theorem Bds_iff {n : Nat} : ∀ {l : List D}, Bds n l ↔ ∀ x ∈ l, Bd n x
  | [] => Iff.intro (fun _ _ h => nomatch h) (fun _ => trivial)
  | d :: ds => by
    constructor
    · intro h x hx
      rcases List.mem_cons.mp hx with e | hx
      · rw [e]; exact h.1
      · exact Bds_iff.mp h.2 x hx
    · intro h
      exact ⟨h d List.mem_cons_self, Bds_iff.mpr fun x hx => h x (List.mem_cons_of_mem _ hx)⟩
theorem Bds_append {n : Nat} {a b : List D} : Bds n (a ++ b) ↔ Bds n a ∧ Bds n b := by
  rw [Bds_iff, Bds_iff, Bds_iff]
  exact ⟨fun h => ⟨fun x hx => h x (List.mem_append_left _ hx), fun x hx => h x (List.mem_append_right _ hx)⟩, fun h x hx => (List.mem_append.mp hx).elim (h.1 x) (h.2 x)⟩
theorem Bds_map {α : Type} {n : Nat} {f : α → D} {l : List α} (h : ∀ x ∈ l, Bd n (f x)) : Bds n (l.map f) := Bds_iff.mpr fun y hy => by
  obtain ⟨x, hx, rfl⟩ := List.mem_map.mp hy
  exact h x hx
mutual
theorem Bd.mono {n m : Nat} (hm : n ≤ m) : ∀ d : D, Bd n d → Bd m d
  | .ref i, h => Nat.lt_of_lt_of_le h hm
  | .tup l, h => Bds.mono hm l h
  | .lst l, h => Bds.mono hm l h
  | .fz l, h => Bds.mono hm l h
  | .obj _ fs, h => BdF.mono hm fs h
  | .non, _ => trivial
  | .bl _, _ => trivial
  | .int _, _ => trivial
  | .str _, _ => trivial
  | .ty _, _ => trivial
  | .cls _, _ => trivial
theorem Bds.mono {n m : Nat} (hm : n ≤ m) : ∀ l : List D, Bds n l → Bds m l
  | [], _ => trivial
  | d :: ds, h => ⟨Bd.mono hm d h.1, Bds.mono hm ds h.2⟩
theorem BdF.mono {n m : Nat} (hm : n ≤ m) : ∀ l : List (Str × D), BdF n l → BdF m l
  | [], _ => trivial
  | d :: ds, h => ⟨Bd.mono hm d.2 h.1, BdF.mono hm ds h.2⟩
end
section
variable {K : PySem.W.Frag} {ρ t : List Addr} {H : Hp}
mutual
theorem DV.bd : ∀ (d : D) (v : V), DV K ρ H d v → Bd ρ.length d
  | .ref i, _, ⟨a, _, h⟩ => (List.getElem?_eq_some_iff.mp h).1
  | .tup l, _, ⟨_, vs, _, _, h⟩ => DVs.bd l vs h
  | .lst l, _, ⟨_, vs, _, _, h⟩ => DVs.bd l vs h
  | .fz l, _, ⟨_, vs, _, _, h⟩ => DVs.bd l vs h
  | .obj _ fs, _, ⟨_, _, ws, _, _, _, h⟩ => DFs.bd fs ws h
  | .non, _, _ => trivial
  | .bl _, _, _ => trivial
  | .int _, _, _ => trivial
  | .str _, _, _ => trivial
  | .ty _, _, _ => trivial
  | .cls _, _, _ => trivial
theorem DVs.bd : ∀ (ds : List D) (vs : List V), DVs K ρ H ds vs → Bds ρ.length ds
  | [], _, _ => trivial
  | d :: ds, _, ⟨v, r, _, h1, h2⟩ => ⟨DV.bd d v h1, DVs.bd ds r h2⟩
theorem DFs.bd : ∀ (ds : List (Str × D)) (vs : List (Str × V)), DFs K ρ H ds vs → BdF ρ.length ds
  | [], _, _ => trivial
  | p :: ds, _, ⟨v, r, _, h1, h2⟩ => ⟨DV.bd p.2 v h1, DFs.bd ds r h2⟩
end
theorem out_app {a : Addr} (h : a ∉ ρ ++ t) : a ∉ ρ := fun z => h (List.mem_append_left _ z)
mutual
theorem DV.cut : ∀ (d : D) (v : V), Bd ρ.length d → DV K (ρ ++ t) H d v → DV K ρ H d v
  | .ref i, _, b, ⟨a, e, h⟩ => ⟨a, e, by rwa [List.getElem?_append_left b] at h⟩
  | .tup l, _, b, ⟨a, vs, e, h1, h2⟩ => ⟨a, vs, e, ⟨out_app h1.1, h1.2⟩, DVs.cut l vs b h2⟩
  | .lst l, _, b, ⟨a, vs, e, h1, h2⟩ => ⟨a, vs, e, ⟨out_app h1.1, h1.2⟩, DVs.cut l vs b h2⟩
  | .fz l, _, b, ⟨a, vs, e, h1, h2⟩ => ⟨a, vs, e, h1.imp (fun z => ⟨out_app z.1, z.2⟩) id, DVs.cut l vs b h2⟩
  | .obj _ fs, _, b, ⟨a, dx, ws, e, n, h1, h2⟩ => ⟨a, dx, ws, e, out_app n, h1, DFs.cut fs ws b h2⟩
  | .non, _, _, h => h
  | .bl _, _, _, h => h
  | .int _, _, _, h => h
  | .str _, _, _, h => h
  | .ty _, _, _, h => h
  | .cls _, _, _, h => h
theorem DVs.cut : ∀ (ds : List D) (vs : List V), Bds ρ.length ds → DVs K (ρ ++ t) H ds vs → DVs K ρ H ds vs
  | [], _, _, h => h
  | d :: ds, _, b, ⟨v, r, e, h1, h2⟩ => ⟨v, r, e, DV.cut d v b.1 h1, DVs.cut ds r b.2 h2⟩
theorem DFs.cut : ∀ (ds : List (Str × D)) (vs : List (Str × V)), BdF ρ.length ds → DFs K (ρ ++ t) H ds vs → DFs K ρ H ds vs
  | [], _, _, h => h
  | p :: ds, _, b, ⟨v, r, e, h1, h2⟩ => ⟨v, r, e, DV.cut p.2 v b.1 h1, DFs.cut ds r b.2 h2⟩
end
end
/-- refs of a thing -/
def BdB (n : Nat) : HB → Prop
  | .lst l => Bds n l
  | .ins _ fs => BdF n fs
/-- the last changing things are let go -/
theorem HR.cut {K : PySem.W.Frag} {ρ t : List Addr} {h g : DHp} {H : Hp} (hr : HR K (ρ ++ t) (h ++ g) H) (hl : ρ.length = h.length) (hb : ∀ b ∈ h, BdB ρ.length b) : HR K ρ h H := by
  refine ⟨hl, (List.nodup_append.mp hr.nd).1, fun i b a e1 e2 => ?_⟩
  have hi : i < h.length := (List.getElem?_eq_some_iff.mp e1).1
  have z := hr.at_ i b a (by rw [List.getElem?_append_left hi]; exact e1) (by rw [List.getElem?_append_left (by rw [hl]; exact hi)]; exact e2)
  have q := hb b (List.mem_of_getElem? e1)
  cases b with
  | lst l => obtain ⟨vs, z1, z2⟩ := z; exact ⟨vs, z1, DVs.cut _ _ q z2⟩
  | ins c fs => obtain ⟨dx, ws, z1, z2⟩ := z; exact ⟨dx, ws, z1, DFs.cut _ _ q z2⟩
theorem HR.bd {K : PySem.W.Frag} {ρ : List Addr} {h : DHp} {H : Hp} (hr : HR K ρ h H) : ∀ b ∈ h, BdB ρ.length b := fun b hb => by
  obtain ⟨i, hi, rfl⟩ := List.getElem_of_mem hb
  obtain ⟨a, ha, z⟩ := hr.get (List.getElem?_eq_getElem hi)
  revert z
  cases h[i] with
  | lst l => rintro ⟨vs, _, z⟩; exact DVs.bd _ _ z
  | ins c fs => rintro ⟨dx, ws, _, z⟩; exact DFs.bd _ _ z
theorem Ext.cut {ρ t : List Addr} {H H' : Hp} (e : Ext ρ H (ρ ++ t) H') : Ext ρ H ρ H' := ⟨⟨[], by simp⟩, fun _ h n => absurd h n, e.old⟩

section
variable {X : Cx} {W : WX} {pos : Pos}
/-! ### while -/
def whW (c : DT) (tb : DS) (E : DEnds) : Nat → DSt → DHp → Prop
  | 0, _, _ => False
  | n + 1, σ, h => c σ h (E.xx σ) fun b h1 => (b = true → tb { E with nx := whW c tb E n, ct := whW c tb E n, bk := E.nx } σ h1) ∧ (b = false → E.nx σ h1)
def sWhile (c : DT) (tb : DS) : DS := fun E σ h => ∃ n, whW c tb { E with n0 := h.length } n σ h
theorem s1_while {c : Expr} {body : List Stmt} {tc : DT} {tb : DS} (hp : PassesOwn (model X.prog X.w) X.A X.env X.xe) (hc : ST X W c tc) (hb : SS X W body tb) : S1 X W (.While c body [] pos) (sWhile tc tb) := by
  refine PS.imp (ps_while hp hc hb) fun Dn σ H w => ?_
  obtain ⟨ρ0, H0, ρ, σd, h, E, e0, hr, sr, ⟨n, w⟩, k⟩ := w
  refine ⟨fun m σ2 H2 => ∃ ρ2 σd2 h2, Ext ρ H ρ2 H2 ∧ HR X.K ρ2 h2 H2 ∧ SR X.K ρ2 H2 σd2 σ2 ∧ whW tc tb { E with n0 := h.length } m σd2 h2, ⟨n, ρ, σd, h, .refl, hr, sr, w⟩, ?_⟩
  rintro m σ2 H2 ⟨ρ2, σd2, h2, e2, hr2, sr2, w2⟩
  cases m with
  | zero => exact w2.elim
  | succ m =>
    refine lT.go hr2 sr2 w2 (k.xw (e0.trans e2)) fun ρ3 b h3 H3 e3 hr3 sr3 kx3 q => ?_
    cases b with
    | true =>
      refine iteT ⟨fun σ' H' => ∃ ρ4 σd4 h4, Ext ρ H ρ4 H' ∧ HR X.K ρ4 h4 H' ∧ SR X.K ρ4 H' σd4 σ' ∧ whW tc tb { E with n0 := h.length } m σd4 h4, fun σ' H' z => ⟨m, Nat.lt_succ_self _, z⟩, ?_⟩
      refine ⟨ρ, H, ρ3, σd2, h3, _, e2.trans e3, hr3, sr3, q.1 rfl, ⟨hr.len.symm, ?_, ?_, ?_, ?_, ?_⟩⟩
      · exact fun ρ4 σd4 h4 σ4 H4 e4 hr4 sr4 q4 => ⟨ρ4, σd4, h4, e4, hr4, sr4, q4⟩
      · exact fun ρ4 σd4 h4 σ4 H4 e4 hr4 sr4 q4 => k.nx ρ4 σd4 h4 σ4 H4 (e0.trans e4) hr4 sr4 q4
      · exact fun ρ4 σd4 h4 σ4 H4 e4 hr4 sr4 q4 => ⟨ρ4, σd4, h4, e4, hr4, sr4, q4⟩
      · exact fun ρ4 d4 h4 v4 H4 e4 => k.rt ρ4 d4 h4 v4 H4 (e0.trans e4)
      · exact fun ρ4 x4 σd4 h4 c4 d4 σ4 H4 e4 => k.ex ρ4 x4 σd4 h4 c4 d4 σ4 H4 (e0.trans e4)
    | false => exact iteF (k.nx ρ3 σd2 h3 σ2 H3 ((e0.trans e2).trans e3) hr3 sr3 (q.2 rfl))

/-! ### comprehensions -/
abbrev W0 : WX := fun _ _ _ _ => False
abbrev X0 : DX := fun _ _ => False
def wipeD (σ : DSt) : List Nat → DSt
  | [] => σ
  | v :: vs => (wipeD σ vs).set v none
theorem wipe_get (σ : St) (i : Nat) : ∀ vs : List Nat, i ∉ vs → (wipe σ vs)[i]? = σ[i]?
  | [], _ => rfl
  | v :: vs, h => by
    have h1 : v ≠ i := fun z => h (by rw [z]; exact List.mem_cons_self)
    have h2 : i ∉ vs := fun z => h (List.mem_cons_of_mem _ z)
    unfold wipe
    rw [List.getElem?_set_ne h1]
    exact wipe_get σ i vs h2
theorem wipe_in (σ : St) (i : Nat) (hi : i < σ.length) : ∀ vs : List Nat, i ∈ vs → (wipe σ vs)[i]? = some none
  | [], h => nomatch h
  | v :: vs, h => by
    unfold wipe
    by_cases e : v = i
    · subst e
      rw [List.getElem?_set_self (by rw [wipe_length]; exact hi)]
    · rw [List.getElem?_set_ne e]
      rcases List.mem_cons.mp h with z | z
      · exact absurd z.symm e
      · exact wipe_in σ i hi vs z
theorem wipe_only {T vs : List Nat} {σ σ2 : St} (on : Only T (wipe σ vs) σ2) (hs : ∀ i ∈ T, i ∈ vs) : wipe σ2 vs = wipe σ vs := by
  apply List.ext_getElem?
  intro i
  by_cases hi : i ∈ vs
  · by_cases hl : i < σ.length
    · rw [wipe_in σ i hl vs hi, wipe_in σ2 i (by rw [on.1, wipe_length]; exact hl) vs hi]
    · have z1 : (wipe σ2 vs).length ≤ i := by rw [wipe_length, on.1, wipe_length]; exact Nat.le_of_not_lt hl
      have z2 : (wipe σ vs).length ≤ i := by rw [wipe_length]; exact Nat.le_of_not_lt hl
      rw [List.getElem?_eq_none z1, List.getElem?_eq_none z2]
  · rw [wipe_get σ2 i vs hi, on.2 i fun z => hi (hs i z)]
theorem SR.wipe {K : PySem.W.Frag} {ρ : List Addr} {H : Hp} {σd : DSt} {σ : St} (r : SR K ρ H σd σ) : ∀ vs : List Nat, SR K ρ H (wipeD σd vs) (wipe σ vs)
  | [] => r
  | v :: vs => by
    have ih := SR.wipe r vs
    refine ⟨by unfold wipeD L2.wipe; rw [List.length_set, List.length_set]; exact ih.len, fun i d h => ?_⟩
    unfold wipeD at h
    unfold L2.wipe
    by_cases e : v = i
    · subst e
      have hl : v < (wipeD σd vs).length := by have := (List.getElem?_eq_some_iff.mp h).1; rwa [List.length_set] at this
      rw [List.getElem?_set_self hl] at h
      cases h
    · rw [List.getElem?_set_ne e] at h ⊢
      exact ih.at_ i d h
abbrev SPT (X : Cx) (W : WX) (ifs : List Expr) (t : DT) : Prop := PTs X ifs (lT X.K W t)
def dYes : DT := fun _ h _ Q => Q true h
theorem PTs.imp {X : Cx} {e : List Expr} {t t' : TT} (h : PTs X e t) (i : ∀ σ H Q, t' σ H Q → t σ H Q) : PTs X e t' := ⟨fun pins s σ H Q I w => h.run pins s σ H Q I (i σ H Q w)⟩
theorem sp_nil : SPT X W [] dYes := PTs.imp pts_nil fun σ H Q w => by
  obtain ⟨ρ, σd, h, Xd, Qd, hr, sr, w, kx, k⟩ := w
  exact k ρ true h H .refl hr w
theorem sp_one {c : Expr} {t : DT} (h : ST X W c t) : SPT X W [c] t := pts_one h
def lcH (g : DG) (tt : DT) (te : DE) (G : DHp → Prop) (n : Nat) (σ : DSt) : List D → DHp → (DHp → Prop) → Prop
  | [], h, Q => G h ∧ Q h
  | x :: xs, h, Q => G h ∧ g x σ h X0 fun σ2 h2 => tt σ2 h2 X0 fun b h3 =>
      (b = true → te σ2 h3 X0 fun y h4 => ∃ acc, h4[n]? = some (.lst acc) ∧ acc.length < sizeLine ∧ lcH g tt te G n σ xs (h4.set n (.lst (acc ++ [y]))) Q) ∧ (b = false → lcH g tt te G n σ xs h3 Q)
theorem lcH_G {g : DG} {tt : DT} {te : DE} {G : DHp → Prop} {n : Nat} {σ : DSt} {xs : List D} {h : DHp} {Q : DHp → Prop} (w : lcH g tt te G n σ xs h Q) : G h := by
  cases xs <;> exact w.1
def dLcH (ti : DI) (g : DG) (tt : DT) (te : DE) (vs : List Nat) : DE := fun σ h X Q => ti σ h X fun items G h1 => lcH g tt te G h1.length (wipeD σ vs) items (h1 ++ [.lst []]) fun h' => Q (.ref h1.length) h'
def dLc (ti : DI) (g : DG) (tt : DT) (te : DE) (vs : List Nat) : DE := fun σ h X Q => ti σ h X fun items G h1 => lcH g tt te G h1.length (wipeD σ vs) items (h1 ++ [.lst []]) fun h' => ∃ acc, h' = h1 ++ [.lst acc] ∧ Bds h1.length acc ∧ Q (.lst acc) h1
/-- the heart of a comprehension -/
theorem lc_read {K : PySem.W.Frag} {T vs : List Nat} {g : DG} {tt : DT} {te : DE} {σ : St} {σd : DSt} {ρ1 : List Addr} {h1 : DHp} {H1 : Hp} {items : List D} {G : DHp → Prop} {J : It} {Dp : Addr} {R : Hp → Prop} {Qh : DHp → Prop} (hT : ∀ i ∈ T, i ∈ vs)
    (hr1 : HR K ρ1 h1 H1) (sr1 : SR K ρ1 H1 σd σ) (it : ItAt K ρ1 H1 items G J) (nD : H1 Dp = none) (w1 : lcH g tt te G h1.length (wipeD σd vs) items (h1 ++ [.lst []]) Qh)
    (fin : ∀ ρ2 h2 H, Ext ρ1 H1 ρ2 H → HR K ρ2 h2 H → ρ2[h1.length]? = some Dp → Qh h2 → R H) :
    ∃ Wv : Nat → Nat → Hp → Prop, (∃ m, Wv 0 m (upd H1 Dp (.lst []))) ∧ ∀ i m H, Wv i m H → (J.stop i H ∧ R H) ∨ (J.go i H ∧ ∃ Nx : Hp → Prop, (∀ H', Nx H' → ∃ m', m' < m ∧ Wv (i + 1) m' H') ∧
      ∀ x H', J.yld i H x H' → lG K W0 T g x (wipe σ vs) H' fun σ2 H2 => wipe σ2 vs = wipe σ vs ∧ lT K W0 tt σ2 H2 fun b H3 => if b = true then lE K W0 te σ2 H3 fun y H4 => ∃ acc, H4 Dp = some (.lst acc) ∧ acc.length < sizeLine ∧ Nx (upd H4 Dp (.lst (acc ++ [y]))) else Nx H3) := by
  obtain ⟨p1, p2⟩ := push_lst (p := Dp) hr1 nD (ds := []) (vs := []) rfl
  have e1p : Ext ρ1 H1 (ρ1 ++ [Dp]) (upd H1 Dp (.lst [])) := .push nD
  refine ⟨fun i m H => m = items.length - i ∧ i ≤ items.length ∧ ∃ ρ2 h2, Ext ρ1 H1 ρ2 H ∧ HR K ρ2 h2 H ∧ ρ2[h1.length]? = some Dp ∧ lcH g tt te G h1.length (wipeD σd vs) (items.drop i) h2 Qh, ⟨items.length, rfl, Nat.zero_le _, _, _, e1p, p1, ?_, w1⟩, ?_⟩
  · obtain ⟨a, ea, q⟩ := p2
    cases ea
    exact q
  rintro i m H ⟨rfl, hi, ρ2, h2, e12, hr2, hD, w2⟩
  obtain ⟨itg, its⟩ := it ρ2 h2 H i e12 hr2 (lcH_G w2)
  by_cases hlt : i < items.length
  · refine .inr ?_
    obtain ⟨go, yl⟩ := itg _ (List.getElem?_eq_getElem hlt)
    rw [List.drop_eq_getElem_cons hlt] at w2
    have w2' := w2.2
    refine ⟨go, fun H' => ∃ ρ3 h3, Ext ρ1 H1 ρ3 H' ∧ HR K ρ3 h3 H' ∧ ρ3[h1.length]? = some Dp ∧ lcH g tt te G h1.length (wipeD σd vs) (items.drop (i + 1)) h3 Qh, fun H' n => ⟨items.length - (i + 1), by omega, rfl, hlt, n⟩, fun x H' y => ?_⟩
    obtain ⟨ey, hry, dvy⟩ := yl x H' y
    have e1y := e12.trans ey
    refine ⟨ρ2, _, h2, X0, _, _, hry, (sr1.ext e1y).wipe vs, dvy, w2', fun _ _ _ _ _ _ _ _ _ _ z => z.elim, fun ρ3 σd3 h3 σ3 H3 e3 hr3 sr3 on w3 => ⟨wipe_only on hT, ?_⟩⟩
    refine lT.go hr3 sr3 w3 (fun _ _ _ _ _ _ _ _ _ _ z => z.elim) fun ρ4 b h4 H4 e4 hr4 sr4 kx4 q4 => ?_
    have e14 := (e1y.trans e3).trans e4
    have hD4 : ρ4[h1.length]? = some Dp := (ey.trans (e3.trans e4)).get hD
    cases b with
    | true =>
      refine iteT (lE.go hr4 sr4 (q4.1 rfl) kx4 fun ρ5 d5 h5 v5 H5 e5 hr5 sr5 kx5 dv5 q5 => ?_)
      obtain ⟨acc, ha, hz, q5⟩ := q5
      have hD5 : ρ5[h1.length]? = some Dp := e5.get hD4
      obtain ⟨vacc, hH, dacc⟩ := hr5.at_ _ _ _ ha hD5
      refine ⟨vacc, hH, by rw [dacc.length]; exact hz, ?_⟩
      obtain ⟨a1, a2⟩ := write_lst hr5 hD5 (dacc.append (.one dv5))
      exact ⟨ρ5, _, (e14.trans e5).trans a2, a1, hD5, q5⟩
    | false => exact iteF ⟨ρ4, h4, e14, hr4, hD4, q4.2 rfl⟩
  · refine .inl ⟨its (Nat.le_of_not_lt hlt), ?_⟩
    rw [List.drop_eq_nil_of_le (Nat.le_of_not_lt hlt)] at w2
    exact fin ρ2 h2 H e12 hr2 hD w2.2
/-- the frozen end -/
theorem lc_freeze {K : PySem.W.Frag} {ρ1 ρ2 : List Addr} {h1 : DHp} {H1 H : Hp} {Dp : Addr} {acc : List D} (hr1 : HR K ρ1 h1 H1) (e : Ext ρ1 H1 ρ2 H) (hr : HR K ρ2 (h1 ++ [.lst acc]) H) (hD : ρ2[h1.length]? = some Dp) (hb : Bds h1.length acc) :
    Ext ρ1 H1 ρ1 H ∧ HR K ρ1 h1 H ∧ DV K ρ1 H (.lst acc) (.ref Dp) := by
  obtain ⟨t, rfl⟩ := e.pre
  obtain ⟨vacc, hH, dacc⟩ := hr.at_ h1.length (.lst acc) Dp (by rw [List.getElem?_append_right (Nat.le_refl _), Nat.sub_self]; rfl) hD
  refine ⟨e.cut, hr.cut hr1.len hr1.bd, Dp, vacc, rfl, ⟨fun z => ?_, hH⟩, DVs.cut _ _ (by rw [hr1.len]; exact hb) dacc⟩
  have nd := (List.nodup_append.mp hr.nd).2.2
  rw [← hr1.len, List.getElem?_append_right (Nat.le_refl _)] at hD
  exact nd Dp z Dp (List.mem_of_getElem? hD) rfl
theorem lc_any {K : PySem.W.Frag} {T vs : List Nat} {ti : DI} {g : DG} {tt : DT} {te : DE} {σ : St} {H : Hp} {Q : VK} (hT : ∀ i ∈ T, i ∈ vs) (w : lE K W (dLc ti g tt te vs) σ H Q) : tLc (lI K W ti) (lG K W0 T g) (lT K W0 tt) (lE K W0 te) vs σ H Q := by
  obtain ⟨ρ, σd, h, Xd, Qd, hr, sr, w, kx, k⟩ := w
  refine lI.go hr sr w kx fun ρ1 items G h1 J H1 e1 hr1 sr1 kx1 it w1 => fun Dp nD => ?_
  refine lc_read hT hr1 sr1 it nD w1 fun ρ2 h2 H2 e2 hr2 hD q => ?_
  obtain ⟨acc, rfl, hb, q⟩ := q
  obtain ⟨a1, a2, a3⟩ := lc_freeze hr1 e2 hr2 hD hb
  exact k ρ1 _ h1 _ H2 (e1.trans a1) a2 a3 q
theorem lc_anyH {K : PySem.W.Frag} {T vs : List Nat} {ti : DI} {g : DG} {tt : DT} {te : DE} {σ : St} {H : Hp} {Q : VK} (hT : ∀ i ∈ T, i ∈ vs) (w : lE K W (dLcH ti g tt te vs) σ H Q) : tLc (lI K W ti) (lG K W0 T g) (lT K W0 tt) (lE K W0 te) vs σ H Q := by
  obtain ⟨ρ, σd, h, Xd, Qd, hr, sr, w, kx, k⟩ := w
  refine lI.go hr sr w kx fun ρ1 items G h1 J H1 e1 hr1 sr1 kx1 it w1 => fun Dp nD => ?_
  exact lc_read hT hr1 sr1 it nD w1 fun ρ2 h2 H2 e2 hr2 hD q => k ρ2 (.ref h1.length) h2 _ H2 (e1.trans e2) hr2 ⟨Dp, rfl, hD⟩ q
section
variable {elt tg iter : Expr} {ifs : List Expr} {scope : Scope} {own : List (Str × Nat)} {T : List Nat} {ti : DI} {g : DG} {tt : DT} {te : DE}
theorem se_lc (hc : X.calm = true) (hN : X.N.Nodup) (hi : SI X W tg iter ti) (ok : BlkOk X.N X.env.scope scope own)
    (hg : ∀ (s : Shared) (H : Hp) (C : Addr) (cl : List (Str × Addr)) (fp : List Addr), SG (X.blk s H scope (compEnvC scope cl C X.env) fp) W0 T tg g) (ht : ∀ (s : Shared) (H : Hp) (C : Addr) (cl : List (Str × Addr)) (fp : List Addr), SPT (X.blk s H scope (compEnvC scope cl C X.env) fp) W0 ifs tt)
    (he : ∀ (s : Shared) (H : Hp) (C : Addr) (cl : List (Str × Addr)) (fp : List Addr), SE (X.blk s H scope (compEnvC scope cl C X.env) fp) W0 elt te) (hT : ∀ i ∈ T, i ∈ own.map (·.2) := by decide) (hs : ∀ x, foldedSetIterable iter X.env x = pure x := by intro _; rfl) :
    SE X W (.ListComp elt [⟨tg, iter, ifs, 0⟩] scope pos) (dLc ti g tt te (own.map (·.2))) := PE.imp (pe_lc hc hN hi ok hg ht he hs) fun σ H Q w => lc_any hT w
theorem se_lcH (hc : X.calm = true) (hN : X.N.Nodup) (hi : SI X W tg iter ti) (ok : BlkOk X.N X.env.scope scope own)
    (hg : ∀ (s : Shared) (H : Hp) (C : Addr) (cl : List (Str × Addr)) (fp : List Addr), SG (X.blk s H scope (compEnvC scope cl C X.env) fp) W0 T tg g) (ht : ∀ (s : Shared) (H : Hp) (C : Addr) (cl : List (Str × Addr)) (fp : List Addr), SPT (X.blk s H scope (compEnvC scope cl C X.env) fp) W0 ifs tt)
    (he : ∀ (s : Shared) (H : Hp) (C : Addr) (cl : List (Str × Addr)) (fp : List Addr), SE (X.blk s H scope (compEnvC scope cl C X.env) fp) W0 elt te) (hT : ∀ i ∈ T, i ∈ own.map (·.2) := by decide) (hs : ∀ x, foldedSetIterable iter X.env x = pure x := by intro _; rfl) :
    SE X W (.ListComp elt [⟨tg, iter, ifs, 0⟩] scope pos) (dLcH ti g tt te (own.map (·.2))) := PE.imp (pe_lc hc hN hi ok hg ht he hs) fun σ H Q w => lc_anyH hT w
/-- name = [..] -/
theorem lS_asg {K : PySem.W.Frag} {de : DE} {i : Nat} {Dn : Ends} {σ : St} {H : Hp} (w : lS K W (sSet i de) Dn σ H) : lE K W de σ H fun x H1 => gName i x σ H1 Dn.nx := by
  obtain ⟨ρ0, H0, ρ, σd, h, E, e0, hr, sr, w, k⟩ := w
  exact lE.go hr sr w (k.xw e0) fun ρ1 d1 h1 v1 H1 e1 hr1 sr1 kx1 dv1 q => k.nx ρ1 _ h1 _ H1 (e0.trans e1) hr1 (sr1.set dv1) q
theorem s1_setLc (i : Nat) {y : Str} {py spos : Pos} (hc : X.calm = true) (hN : X.N.Nodup) (hi : SI X W tg iter ti) (ok : BlkOk X.N X.env.scope scope own)
    (hg : ∀ (s : Shared) (H : Hp) (C : Addr) (cl : List (Str × Addr)) (fp : List Addr), SG (X.blk s H scope (compEnvC scope cl C X.env) fp) W0 T tg g) (ht : ∀ (s : Shared) (H : Hp) (C : Addr) (cl : List (Str × Addr)) (fp : List Addr), SPT (X.blk s H scope (compEnvC scope cl C X.env) fp) W0 ifs tt)
    (he : ∀ (s : Shared) (H : Hp) (C : Addr) (cl : List (Str × Addr)) (fp : List Addr), SE (X.blk s H scope (compEnvC scope cl C X.env) fp) W0 elt te) (hy : X.N[i]? = some y := by rfl) (hyl : X.env.scope.names.lookup y = some .local := by rfl)
    (hsw : swapsWith (.ListComp elt [⟨tg, iter, ifs, 0⟩] scope pos) (some (.Name y py)) spos.line X.env = pure true := by exact sw_true rfl rfl rfl (by decide +kernel)) (hT : ∀ i ∈ T, i ∈ own.map (·.2) := by decide) (hs : ∀ x, foldedSetIterable iter X.env x = pure x := by intro _; rfl) :
    S1 X W (.Assign [.Name y py] (.ListComp elt [⟨tg, iter, ifs, 0⟩] scope pos) spos) (sSet i (dLc ti g tt te (own.map (·.2)))) := PS.imp (ps_setLc hc hN hy hyl hsw hi ok hg ht he hs) fun Dn σ H w => lc_any hT (lS_asg w)
theorem s1_setLcH (i : Nat) {y : Str} {py spos : Pos} (hc : X.calm = true) (hN : X.N.Nodup) (hi : SI X W tg iter ti) (ok : BlkOk X.N X.env.scope scope own)
    (hg : ∀ (s : Shared) (H : Hp) (C : Addr) (cl : List (Str × Addr)) (fp : List Addr), SG (X.blk s H scope (compEnvC scope cl C X.env) fp) W0 T tg g) (ht : ∀ (s : Shared) (H : Hp) (C : Addr) (cl : List (Str × Addr)) (fp : List Addr), SPT (X.blk s H scope (compEnvC scope cl C X.env) fp) W0 ifs tt)
    (he : ∀ (s : Shared) (H : Hp) (C : Addr) (cl : List (Str × Addr)) (fp : List Addr), SE (X.blk s H scope (compEnvC scope cl C X.env) fp) W0 elt te) (hy : X.N[i]? = some y := by rfl) (hyl : X.env.scope.names.lookup y = some .local := by rfl)
    (hsw : swapsWith (.ListComp elt [⟨tg, iter, ifs, 0⟩] scope pos) (some (.Name y py)) spos.line X.env = pure true := by exact sw_true rfl rfl rfl (by decide +kernel)) (hT : ∀ i ∈ T, i ∈ own.map (·.2) := by decide) (hs : ∀ x, foldedSetIterable iter X.env x = pure x := by intro _; rfl) :
    S1 X W (.Assign [.Name y py] (.ListComp elt [⟨tg, iter, ifs, 0⟩] scope pos) spos) (sSet i (dLcH ti g tt te (own.map (·.2)))) := PS.imp (ps_setLc hc hN hy hyl hsw hi ok hg ht he hs) fun Dn σ H w => lc_anyH hT (lS_asg w)
end
end
end L2.MW

/-! MW, part F: calls of built-ins and of the text's own defs; contracts. -/
namespace L2.MW
open PySem PySem.Spec PyProof.Rows

abbrev DN := List D → DHp → DK → Prop
def LNok (K : PySem.W.Frag) (op : DN) (r : List V → Hp → VK → Prop) : Prop := ∀ ρ h H xs vs Qd Q, HR K ρ h H → DVs K ρ H xs vs → op xs h Qd →
  (∀ ρ' d h' v H', Ext ρ H ρ' H' → HR K ρ' h' H' → DV K ρ' H' d v → Qd d h' → Q v H') → r vs H Q
def dCB (op : DN) (ts : DA) : DE := fun σ h X Q => ts σ h X fun ds h1 => op ds h1 Q
section
variable {X : Cx} {W : WX} {pos p : Pos} {x : Str} {e : Expr} {es : List Expr} {ts : DA} {op : DN} {r : List V → Hp → VK → Prop} {id T : String}
theorem cb_go (L : LNok X.K op r) {σ : St} {H : Hp} {Q : VK} (w : lE X.K W (dCB op ts) σ H Q) : lA X.K W ts σ H fun vs H1 => r vs H1 Q := by
  obtain ⟨ρ, σd, h, Xd, Qd, hr, sr, w, kx, k⟩ := w
  exact ⟨ρ, σd, h, Xd, _, hr, sr, w, kx, fun ρ1 ds h1 vs H1 e1 hr1 dvs q => L ρ1 h1 H1 ds vs Qd Q hr1 dvs q fun ρ' d h' v H' e' => k ρ' d h' v H' (e1.trans e')⟩
theorem se_cb (hc : CallR X (.builtin id) r) (L : LNok X.K op r) (hg : Gl X x) (hm : X.mg x = none) (hv : bootBuiltins x = some (.builtin id)) (ha : SA X W (e :: es) ts) (hn : x ≠ "__name__" := by decide) (hdb : (x == ("__debug__" : Str)) = false := by decide)
    (he : starEach (e :: es) X.env = (false, eval e X.env) :: starEach es X.env := by rfl) (hpl : (backTo pos (starEach es X.env)).any (·.1) = false := by rfl) : SE X W (.Call (.Name x p) (e :: es) [] pos) (dCB op ts) :=
  PE.imp (pe_callB hc hg hm hv ha hn hdb he hpl) fun σ H Q w => cb_go L w
theorem se_ct (hc : CallR X (.type T) r) (L : LNok X.K op r) (hg : Gl X x) (hm : X.mg x = none) (hv : bootBuiltins x = some (.type T)) (ha : SA X W (e :: es) ts) (hn : x ≠ "__name__" := by decide) (hdb : (x == ("__debug__" : Str)) = false := by decide)
    (he : starEach (e :: es) X.env = (false, eval e X.env) :: starEach es X.env := by rfl) (hpl : (backTo pos (starEach es X.env)).any (·.1) = false := by rfl) : SE X W (.Call (.Name x p) (e :: es) [] pos) (dCB op ts) :=
  PE.imp (pe_callTy hc hg hm hv ha hn hdb he hpl) fun σ H Q w => cb_go L w
end
section
variable {K : PySem.W.Frag}
theorem DVs.un {ρ : List Addr} {H : Hp} {d : D} {vs : List V} (h : DVs K ρ H [d] vs) : ∃ v, vs = [v] ∧ DV K ρ H d v := by
  obtain ⟨v, r, rfl, h1, rfl⟩ := h
  exact ⟨v, rfl, h1⟩
theorem DVs.bi {ρ : List Addr} {H : Hp} {d d' : D} {vs : List V} (h : DVs K ρ H [d, d'] vs) : ∃ v v', vs = [v, v'] ∧ DV K ρ H d v ∧ DV K ρ H d' v' := by
  obtain ⟨v, r, rfl, h1, v', r', rfl, h2, rfl⟩ := h
  exact ⟨v, v', rfl, h1, h2⟩
/-! ### len, tuple, list, int, abs, .. -/
def nLen : DN := fun ds h Q => ∃ d, ds = [d] ∧ ((∃ l, asS h d = some l ∧ Q (.int l.length) h) ∨ ∃ z, d = .str z ∧ z.length ≤ sizeLine ∧ Q (.int z.length) h)
theorem L_len : LNok K nLen (fun xs H Q => (∃ p ys, xs = [.ref p] ∧ (SqL K H p ys ∨ SqT K H p ys) ∧ Q (.int ys.length) H) ∨ ∃ z, xs = [.str z] ∧ z.length ≤ sizeLine ∧ Q (.int z.length) H) := by
  intro ρ h H xs vs Qd Q hr dvs w k
  obtain ⟨d, rfl, w⟩ := w
  obtain ⟨v, rfl, dv⟩ := dvs.un
  rcases w with ⟨l, e, q⟩ | ⟨z, rfl, hz, q⟩
  · obtain ⟨a, vs, rfl, hq, ds⟩ := asS_at hr dv e
    refine .inl ⟨a, vs, rfl, hq, ?_⟩
    rw [ds.length]
    exact k ρ (.int l.length) h _ H .refl hr rfl q
  · have ez : v = .str z := dv
    subst ez
    exact .inr ⟨z, rfl, hz, k ρ (.int z.length) h _ H .refl hr rfl q⟩
def nTup : DN := fun ds h Q => ∃ d l, ds = [d] ∧ asS h d = some l ∧ Q (.tup l) h
theorem L_tup : LNok K nTup (fun xs H Q => ∃ p ys, xs = [.ref p] ∧ ((SqL K H p ys ∧ ∀ l, H l = none → Q (.ref l) (upd H l (.tup ys))) ∨ (SqT K H p ys ∧ Q (.ref p) H))) := by
  intro ρ h H xs vs Qd Q hr dvs w k
  obtain ⟨d, l, rfl, e, q⟩ := w
  obtain ⟨v, rfl, dv⟩ := dvs.un
  cases d with
  | tup l' =>
    cases e
    have dv' := dv
    obtain ⟨a, vs, rfl, hq, ds⟩ := dv
    exact ⟨a, vs, rfl, .inr ⟨hq.sq, k ρ (.tup _) h _ H .refl hr dv' q⟩⟩
  | lst l' => obtain ⟨a, vs, rfl, hq, ds⟩ := asL_at hr dv e; exact ⟨a, vs, rfl, .inl ⟨hq, fun p np => k ρ _ h _ _ (.new1 np) (hr.new1 np) (.tupNew hr np ds) q⟩⟩
  | fz l' => obtain ⟨a, vs, rfl, hq, ds⟩ := asL_at hr dv e; exact ⟨a, vs, rfl, .inl ⟨hq, fun p np => k ρ _ h _ _ (.new1 np) (hr.new1 np) (.tupNew hr np ds) q⟩⟩
  | ref i => obtain ⟨a, vs, rfl, hq, ds⟩ := asL_at hr dv e; exact ⟨a, vs, rfl, .inl ⟨hq, fun p np => k ρ _ h _ _ (.new1 np) (hr.new1 np) (.tupNew hr np ds) q⟩⟩
  | _ => cases e
/-- list(x), not to be changed; to be changed -/
def nLst : DN := fun ds h Q => ∃ d l, ds = [d] ∧ asS h d = some l ∧ Q (.lst l) h
def nLstH : DN := fun ds h Q => ∃ d l, ds = [d] ∧ asS h d = some l ∧ Q (.ref h.length) (h ++ [.lst l])
def rLstOf (K : PySem.W.Frag) : List V → Hp → VK → Prop := fun xs H Q => ∃ p ys, xs = [.ref p] ∧ (SqL K H p ys ∨ SqT K H p ys) ∧ ∀ l, H l = none → Q (.ref l) (upd H l (.lst ys))
theorem L_lst : LNok K nLst (rLstOf K) := by
  intro ρ h H xs vs Qd Q hr dvs w k
  obtain ⟨d, l, rfl, e, q⟩ := w
  obtain ⟨v, rfl, dv⟩ := dvs.un
  obtain ⟨a, vs, rfl, hq, ds⟩ := asS_at hr dv e
  exact ⟨a, vs, rfl, hq, fun p np => k ρ _ h _ _ (.new1 np) (hr.new1 np) (.lstNew hr np ds) q⟩
theorem L_lstH : LNok K nLstH (rLstOf K) := by
  intro ρ h H xs vs Qd Q hr dvs w k
  obtain ⟨d, l, rfl, e, q⟩ := w
  obtain ⟨v, rfl, dv⟩ := dvs.un
  obtain ⟨a, vs, rfl, hq, ds⟩ := asS_at hr dv e
  refine ⟨a, vs, rfl, hq, fun p np => ?_⟩
  obtain ⟨a1, a2⟩ := push_lst hr np ds
  exact k _ _ _ _ _ (.push np) a1 a2 q
def b2D (b : Bool) : Int := if b then 1 else 0
def nInt : DN := fun ds h Q => (∃ i, ds = [.int i] ∧ Q (.int i) h) ∨ ∃ b, ds = [.bl b] ∧ Q (.int (b2D b)) h
theorem L_int : LNok K nInt (fun xs H Q => (∃ i, xs = [.int i] ∧ Q (.int i) H) ∨ ∃ k, xs = [.bl k] ∧ Q (.int (if k then 1 else 0)) H) := by
  intro ρ h H xs vs Qd Q hr dvs w k
  rcases w with ⟨i, rfl, q⟩ | ⟨b, rfl, q⟩
  · obtain ⟨v, rfl, dv⟩ := dvs.un
    have e : v = .int i := dv
    exact .inl ⟨i, by rw [e], k ρ (.int i) h _ H .refl hr rfl q⟩
  · obtain ⟨v, rfl, dv⟩ := dvs.un
    have e : v = .bl b := dv
    exact .inr ⟨b, by rw [e], k ρ (.int (b2D b)) h _ H .refl hr rfl q⟩
def nStr : DN := fun ds h Q => ∃ i, ds = [.int i] ∧ i.natAbs.log2 < 1920 ∧ Q (.str (toString i)) h
theorem L_str : LNok K nStr (fun xs H Q => ∃ i, xs = [.int i] ∧ i.natAbs.log2 < 1920 ∧ Q (.str (toString i)) H) := by
  intro ρ h H xs vs Qd Q hr dvs w k
  obtain ⟨i, rfl, hi, q⟩ := w
  obtain ⟨v, rfl, dv⟩ := dvs.un
  have e : v = .int i := dv
  exact ⟨i, by rw [e], hi, k ρ (.str (toString i)) h _ H .refl hr rfl q⟩
def nAbs : DN := fun ds h Q => ∃ i, ds = [.int i] ∧ Q (.int (if i < 0 then -i else i)) h
theorem L_abs : LNok K nAbs (fun xs H Q => ∃ i, xs = [.int i] ∧ Q (.int (if i < 0 then -i else i)) H) := by
  intro ρ h H xs vs Qd Q hr dvs w k
  obtain ⟨i, rfl, q⟩ := w
  obtain ⟨v, rfl, dv⟩ := dvs.un
  have e : v = .int i := dv
  exact ⟨i, by rw [e], k ρ (.int (if i < 0 then -i else i)) h _ H .refl hr rfl q⟩
def nI2 (f : Int → Int → Int) : DN := fun ds h Q => ∃ i j, ds = [.int i, .int j] ∧ Q (.int (f i j)) h
theorem L_I2 {f : Int → Int → Int} : LNok K (nI2 f) (fun xs H Q => ∃ i j, xs = [.int i, .int j] ∧ Q (.int (f i j)) H) := by
  intro ρ h H xs vs Qd Q hr dvs w k
  obtain ⟨i, j, rfl, q⟩ := w
  obtain ⟨v, v', rfl, d1, d2⟩ := dvs.bi
  have e1 : v = .int i := d1
  have e2 : v' = .int j := d2
  exact ⟨i, j, by rw [e1, e2], k ρ (.int (f i j)) h _ H .refl hr rfl q⟩
def nSum : DN := fun ds h Q => ∃ d, ∃ ns : List Int, ds = [d] ∧ asL h d = some (ns.map D.int) ∧ Q (.int ns.sum) h
theorem L_sum : LNok K nSum (rSum K) := by
  intro ρ h H xs vs Qd Q hr dvs w k
  obtain ⟨d, ns, rfl, e, q⟩ := w
  obtain ⟨v, rfl, dv⟩ := dvs.un
  obtain ⟨a, vs, rfl, hq, ds⟩ := asL_at hr dv e
  rw [ds.ints] at hq
  exact ⟨a, ns, rfl, hq, k ρ (.int ns.sum) h _ H .refl hr rfl q⟩
def nAll : DN := fun ds h Q => ∃ d, ∃ bs : List Bool, ds = [d] ∧ asL h d = some (bs.map D.bl) ∧ Q (.bl (bs.all id)) h
def nAny : DN := fun ds h Q => ∃ d, ∃ bs : List Bool, ds = [d] ∧ asL h d = some (bs.map D.bl) ∧ Q (.bl (bs.any id)) h
theorem L_all : LNok K nAll (rAll K) := by
  intro ρ h H xs vs Qd Q hr dvs w k
  obtain ⟨d, ns, rfl, e, q⟩ := w
  obtain ⟨v, rfl, dv⟩ := dvs.un
  obtain ⟨a, vs, rfl, hq, ds⟩ := asL_at hr dv e
  rw [ds.bls] at hq
  exact ⟨a, ns, rfl, hq, k ρ (.bl (ns.all id)) h _ H .refl hr rfl q⟩
theorem L_any : LNok K nAny (rAny K) := by
  intro ρ h H xs vs Qd Q hr dvs w k
  obtain ⟨d, ns, rfl, e, q⟩ := w
  obtain ⟨v, rfl, dv⟩ := dvs.un
  obtain ⟨a, vs, rfl, hq, ds⟩ := asL_at hr dv e
  rw [ds.bls] at hq
  exact ⟨a, ns, rfl, hq, k ρ (.bl (ns.any id)) h _ H .refl hr rfl q⟩
/-- max, min of a list of ints -/
def nMax : DN := fun ds h Q => ∃ d, ∃ ns : List Int, ds = [d] ∧ asL h d = some (ns.map D.int) ∧ 0 < ns.length ∧ ∀ m, m ∈ ns → (∀ y, y ∈ ns → y ≤ m) → Q (.int m) h
def nMin : DN := fun ds h Q => ∃ d, ∃ ns : List Int, ds = [d] ∧ asL h d = some (ns.map D.int) ∧ 0 < ns.length ∧ ∀ m, m ∈ ns → (∀ y, y ∈ ns → m ≤ y) → Q (.int m) h
theorem L_max : LNok K nMax (rMax K) := by
  intro ρ h H xs vs Qd Q hr dvs w k
  obtain ⟨d, ns, rfl, e, hn, q⟩ := w
  obtain ⟨v, rfl, dv⟩ := dvs.un
  obtain ⟨a, vs, rfl, hq, ds⟩ := asL_at hr dv e
  rw [ds.ints] at hq
  exact ⟨a, ns, rfl, hq, hn, fun m h1 h2 => k ρ (.int m) h _ H .refl hr rfl (q m h1 h2)⟩
theorem L_min : LNok K nMin (rMin K) := by
  intro ρ h H xs vs Qd Q hr dvs w k
  obtain ⟨d, ns, rfl, e, hn, q⟩ := w
  obtain ⟨v, rfl, dv⟩ := dvs.un
  obtain ⟨a, vs, rfl, hq, ds⟩ := asL_at hr dv e
  rw [ds.ints] at hq
  exact ⟨a, ns, rfl, hq, hn, fun m h1 h2 => k ρ (.int m) h _ H .refl hr rfl (q m h1 h2)⟩
end
section
variable {X : Cx} {W : WX} {pos p : Pos} {e : Expr} {es : List Expr} {ts : DA}
theorem call_len2 : CallR X (.builtin "len") (fun xs H Q => (∃ p ys, xs = [.ref p] ∧ (SqL X.K H p ys ∨ SqT X.K H p ys) ∧ Q (.int ys.length) H) ∨ ∃ z, xs = [.str z] ∧ z.length ≤ sizeLine ∧ Q (.int z.length) H) := call_len_seq.or call_len_str
theorem se_len (hm : X.mg "len" = none) (ha : SA X W (e :: es) ts) (hg : Gl X "len" := by rfl) (he : starEach (e :: es) X.env = (false, eval e X.env) :: starEach es X.env := by rfl) (hpl : (backTo pos (starEach es X.env)).any (·.1) = false := by rfl) : SE X W (.Call (.Name "len" p) (e :: es) [] pos) (dCB nLen ts) := se_cb call_len2 L_len hg hm PySem.boot_len ha (he := he) (hpl := hpl)
theorem se_tuple (hm : X.mg "tuple" = none) (ha : SA X W (e :: es) ts) (hg : Gl X "tuple" := by rfl) (he : starEach (e :: es) X.env = (false, eval e X.env) :: starEach es X.env := by rfl) (hpl : (backTo pos (starEach es X.env)).any (·.1) = false := by rfl) : SE X W (.Call (.Name "tuple" p) (e :: es) [] pos) (dCB nTup ts) := se_ct call_tuple_of L_tup hg hm (by decide +kernel) ha (he := he) (hpl := hpl)
theorem se_list (hm : X.mg "list" = none) (ha : SA X W (e :: es) ts) (hg : Gl X "list" := by rfl) (he : starEach (e :: es) X.env = (false, eval e X.env) :: starEach es X.env := by rfl) (hpl : (backTo pos (starEach es X.env)).any (·.1) = false := by rfl) : SE X W (.Call (.Name "list" p) (e :: es) [] pos) (dCB nLst ts) := se_ct call_list_of L_lst hg hm (by decide +kernel) ha (he := he) (hpl := hpl)
theorem se_listH (hm : X.mg "list" = none) (ha : SA X W (e :: es) ts) (hg : Gl X "list" := by rfl) (he : starEach (e :: es) X.env = (false, eval e X.env) :: starEach es X.env := by rfl) (hpl : (backTo pos (starEach es X.env)).any (·.1) = false := by rfl) : SE X W (.Call (.Name "list" p) (e :: es) [] pos) (dCB nLstH ts) := se_ct call_list_of L_lstH hg hm (by decide +kernel) ha (he := he) (hpl := hpl)
theorem se_intc (hm : X.mg "int" = none) (ha : SA X W (e :: es) ts) (hg : Gl X "int" := by rfl) (he : starEach (e :: es) X.env = (false, eval e X.env) :: starEach es X.env := by rfl) (hpl : (backTo pos (starEach es X.env)).any (·.1) = false := by rfl) : SE X W (.Call (.Name "int" p) (e :: es) [] pos) (dCB nInt ts) := se_ct call_int1 L_int hg hm (by decide +kernel) ha (he := he) (hpl := hpl)
theorem se_strc (hm : X.mg "str" = none) (ha : SA X W (e :: es) ts) (hg : Gl X "str" := by rfl) (he : starEach (e :: es) X.env = (false, eval e X.env) :: starEach es X.env := by rfl) (hpl : (backTo pos (starEach es X.env)).any (·.1) = false := by rfl) : SE X W (.Call (.Name "str" p) (e :: es) [] pos) (dCB nStr ts) := se_ct call_str_int L_str hg hm (by decide +kernel) ha (he := he) (hpl := hpl)
theorem se_abs (hm : X.mg "abs" = none) (ha : SA X W (e :: es) ts) (hg : Gl X "abs" := by rfl) (he : starEach (e :: es) X.env = (false, eval e X.env) :: starEach es X.env := by rfl) (hpl : (backTo pos (starEach es X.env)).any (·.1) = false := by rfl) : SE X W (.Call (.Name "abs" p) (e :: es) [] pos) (dCB nAbs ts) := se_cb call_abs L_abs hg hm (by decide +kernel) ha (he := he) (hpl := hpl)
theorem se_max2 (hc : X.calm = true) (hm : X.mg "max" = none) (ha : SA X W (e :: es) ts) (hg : Gl X "max" := by rfl) (he : starEach (e :: es) X.env = (false, eval e X.env) :: starEach es X.env := by rfl) (hpl : (backTo pos (starEach es X.env)).any (·.1) = false := by rfl) : SE X W (.Call (.Name "max" p) (e :: es) [] pos) (dCB (nI2 fun i j => if j > i then j else i) ts) := se_cb (call_max2 hc) L_I2 hg hm (by decide +kernel) ha (he := he) (hpl := hpl)
theorem se_min2 (hc : X.calm = true) (hm : X.mg "min" = none) (ha : SA X W (e :: es) ts) (hg : Gl X "min" := by rfl) (he : starEach (e :: es) X.env = (false, eval e X.env) :: starEach es X.env := by rfl) (hpl : (backTo pos (starEach es X.env)).any (·.1) = false := by rfl) : SE X W (.Call (.Name "min" p) (e :: es) [] pos) (dCB (nI2 fun i j => if j < i then j else i) ts) := se_cb (call_min2 hc) L_I2 hg hm (by decide +kernel) ha (he := he) (hpl := hpl)
theorem se_sum (hc : X.calm = true) (hm : X.mg "sum" = none) (ha : SA X W (e :: es) ts) (hg : Gl X "sum" := by rfl) (he : starEach (e :: es) X.env = (false, eval e X.env) :: starEach es X.env := by rfl) (hpl : (backTo pos (starEach es X.env)).any (·.1) = false := by rfl) : SE X W (.Call (.Name "sum" p) (e :: es) [] pos) (dCB nSum ts) := se_cb (cr_sum hc) L_sum hg hm (by decide +kernel) ha (he := he) (hpl := hpl)
theorem se_all (hc : X.calm = true) (hm : X.mg "all" = none) (ha : SA X W (e :: es) ts) (hg : Gl X "all" := by rfl) (he : starEach (e :: es) X.env = (false, eval e X.env) :: starEach es X.env := by rfl) (hpl : (backTo pos (starEach es X.env)).any (·.1) = false := by rfl) : SE X W (.Call (.Name "all" p) (e :: es) [] pos) (dCB nAll ts) := se_cb (cr_all hc) L_all hg hm (by decide +kernel) ha (he := he) (hpl := hpl)
theorem se_any (hc : X.calm = true) (hm : X.mg "any" = none) (ha : SA X W (e :: es) ts) (hg : Gl X "any" := by rfl) (he : starEach (e :: es) X.env = (false, eval e X.env) :: starEach es X.env := by rfl) (hpl : (backTo pos (starEach es X.env)).any (·.1) = false := by rfl) : SE X W (.Call (.Name "any" p) (e :: es) [] pos) (dCB nAny ts) := se_cb (cr_any hc) L_any hg hm (by decide +kernel) ha (he := he) (hpl := hpl)
theorem se_max1 (hc : X.calm = true) (hm : X.mg "max" = none) (ha : SA X W (e :: es) ts) (hg : Gl X "max" := by rfl) (he : starEach (e :: es) X.env = (false, eval e X.env) :: starEach es X.env := by rfl) (hpl : (backTo pos (starEach es X.env)).any (·.1) = false := by rfl) : SE X W (.Call (.Name "max" p) (e :: es) [] pos) (dCB nMax ts) := se_cb (cr_max hc) L_max hg hm (by decide +kernel) ha (he := he) (hpl := hpl)
theorem se_min1 (hc : X.calm = true) (hm : X.mg "min" = none) (ha : SA X W (e :: es) ts) (hg : Gl X "min" := by rfl) (he : starEach (e :: es) X.env = (false, eval e X.env) :: starEach es X.env := by rfl) (hpl : (backTo pos (starEach es X.env)).any (·.1) = false := by rfl) : SE X W (.Call (.Name "min" p) (e :: es) [] pos) (dCB nMin ts) := se_cb (cr_min hc) L_min hg hm (by decide +kernel) ha (he := he) (hpl := hpl)
/-! ### what range walks -/
variable {a b : Expr}
theorem si_range1 (hm : X.mg "range" = none) (ha : SA X W [a] ts) {tg : Expr} (hg : Gl X "range" := by rfl) (hs : starEach [a] X.env = [(false, eval a X.env)] := by rfl) : SI X W tg (.Call (.Name "range" p) [a] [] pos) (iR1 ts) :=
  PI.imp (pi_range1 hg hm ha hs) fun σ H R w => by
    obtain ⟨ρ, σd, h, Xd, Qd, hr, sr, w, kx, k⟩ := w
    refine ⟨ρ, σd, h, Xd, _, hr, sr, w, kx, fun ρ1 ds h1 vs H1 e1 hr1 dvs q => ?_⟩
    obtain ⟨j, rfl, hj, q⟩ := q
    obtain ⟨v, rfl, dv⟩ := dvs.un
    have ev : v = .int j := dv
    subst ev
    exact ⟨j, rfl, hj.2.2.1, hj.2.2.2, k ρ1 _ _ h1 _ H1 e1 hr1 it_range q⟩
theorem si_range2 (hm : X.mg "range" = none) (ha : SA X W [a, b] ts) {tg : Expr} (hg : Gl X "range" := by rfl) (hs : starEach [a, b] X.env = [(false, eval a X.env), (false, eval b X.env)] := by rfl) (hs2 : starEach [b] X.env = [(false, eval b X.env)] := by rfl) : SI X W tg (.Call (.Name "range" p) [a, b] [] pos) (iR2 ts) :=
  PI.imp (pi_range2 hg hm ha hs hs2) fun σ H R w => by
    obtain ⟨ρ, σd, h, Xd, Qd, hr, sr, w, kx, k⟩ := w
    refine ⟨ρ, σd, h, Xd, _, hr, sr, w, kx, fun ρ1 ds h1 vs H1 e1 hr1 dvs q => ?_⟩
    obtain ⟨i, j, rfl, hj, q⟩ := q
    obtain ⟨v, v', rfl, d1, d2⟩ := dvs.bi
    have e1' : v = .int i := d1
    have e2' : v' = .int j := d2
    subst e1' e2'
    exact ⟨i, j, rfl, hj, k ρ1 _ _ h1 _ H1 e1 hr1 it_range q⟩

/-! ### methods of built-in types -/
abbrev DM := D → List D → DHp → DK → Prop
def LMok (K : PySem.W.Frag) (op : DM) (r : V → List V → Hp → VK → Prop) : Prop := ∀ ρ h H x xs v vs Qd Q, HR K ρ h H → DV K ρ H x v → DVs K ρ H xs vs → op x xs h Qd →
  (∀ ρ' d h' v H', Ext ρ H ρ' H' → HR K ρ' h' H' → DV K ρ' H' d v → Qd d h' → Q v H') → r v vs H Q
/-- of the type T -/
def tyM (T : String) (h : DHp) (d : D) : Prop := (T = "list" ∧ ∃ l, asL h d = some l) ∨ (T = "str" ∧ ∃ z, d = .str z) ∨ (T = "int" ∧ ∃ i, d = .int i)
theorem tyM_at {K : PySem.W.Frag} {ρ : List Addr} {h : DHp} {H : Hp} {T : String} {d : D} {v : V} (hr : HR K ρ h H) (dv : DV K ρ H d v) (t : tyM T h d) : tyV K T v H := by
  rcases t with ⟨rfl, l, e⟩ | ⟨rfl, z, rfl⟩ | ⟨rfl, i, rfl⟩
  · obtain ⟨a, vs, rfl, hq, _⟩ := asL_at hr dv e
    exact .inl ⟨rfl, vs, hq⟩
  · have ev : v = .str z := dv
    subst ev; exact rfl
  · have ev : v = .int i := dv
    subst ev; exact rfl
def dBM (T : String) (op : DM) (dd : DE) (ts : DA) : DE := fun σ h X Q => dd σ h X fun x h1 => tyM T h1 x ∧ ts σ h1 X fun xs h2 => op x xs h2 Q
def dBM0 (T : String) (op : DM) (dd : DE) : DE := fun σ h X Q => dd σ h X fun x h1 => tyM T h1 x ∧ op x [] h1 Q
section
variable {o : Expr} {dd : DE} {name : Str} {apos cpos : Pos} {T id : String} {r : V → List V → Hp → VK → Prop} {op : DM}
theorem se_bm0 (pa : PlainAttrs T) (slot : Slot T name id) (hty : typeOf (.builtin id) = pure (.type "method_descriptor")) (hm : MtR X id r) (L : LMok X.K op r) (ho : SE X W o dd)
    (hbase : attributeBase o name X.env (eval o X.env) = eval o X.env := by rfl) (hline : (apos.endLine == cpos.line) = true := by rfl) : SE X W (.Call (.Attribute o name apos) [] [] cpos) (dBM0 T op dd) := PE.imp (pe_bm0 pa slot hty hm ho hbase hline) fun σ H Q w => by
  obtain ⟨ρ, σd, h, Xd, Qd, hr, sr, w, kx, k⟩ := w
  refine ⟨ρ, σd, h, Xd, _, hr, sr, w, kx, fun ρ1 d h1 v H1 e1 hr1 dv q => ⟨tyM_at hr1 dv q.1, ?_⟩⟩
  exact L ρ1 h1 H1 d [] v [] Qd Q hr1 dv rfl q.2 fun ρ' d h' v H' e => k ρ' d h' v H' (e1.trans e)
theorem se_bm (pa : PlainAttrs T) (slot : Slot T name id) (hty : typeOf (.builtin id) = pure (.type "method_descriptor")) (hm : MtR X id r) (L : LMok X.K op r) (ho : SE X W o dd) (ha : SA X W (e :: es) ts)
    (hbase : attributeBase o name X.env (eval o X.env) = eval o X.env := by rfl)
    (hfew : ((backTo cpos (starEach (e :: es) X.env)).all (fun x => !x.1) && (backToKw cpos (keywordEach [] X.env)).all (fun x => x.1.isSome)
      && decide ((e :: es).length + ([] : List Keyword).length + (if ([] : List Keyword).isEmpty then 0 else 1) < 30)) = true := by rfl)
    (hline : (apos.endLine == cpos.line) = true := by rfl) (hs : starEach (e :: es) X.env = (false, eval e X.env) :: starEach es X.env := by rfl) (hplain : (backTo cpos (starEach es X.env)).any (·.1) = false := by rfl) :
    SE X W (.Call (.Attribute o name apos) (e :: es) [] cpos) (dBM T op dd ts) := PE.imp (pe_bm pa slot hty hm ho ha hbase hfew hline hs hplain) fun σ H Q w => by
  obtain ⟨ρ, σd, h, Xd, Qd, hr, sr, w, kx, k⟩ := w
  refine lE.go hr sr w kx fun ρ1 d h1 v H1 e1 hr1 sr1 kx1 dv q => ⟨tyM_at hr1 dv q.1, ?_⟩
  refine lA.go hr1 sr1 q.2 kx1 fun ρ2 ds h2 vs H2 e2 hr2 sr2 kx2 dvs q2 => ?_
  exact L ρ2 h2 H2 d ds v vs Qd Q hr2 (dv.ext e2) dvs q2 fun ρ' d h' v H' e => k ρ' d h' v H' ((e1.trans e2).trans e)
end
section
variable {K : PySem.W.Frag}
def mApp : DM := fun x xs h Q => ∃ i l y, x = .ref i ∧ xs = [y] ∧ h[i]? = some (.lst l) ∧ l.length < sizeLine ∧ Q .non (h.set i (.lst (l ++ [y])))
theorem L_app : LMok K mApp rAppend := by
  intro ρ h H x xs v vs Qd Q hr dx dvs w k
  obtain ⟨i, l, y, rfl, rfl, hi, hz, q⟩ := w
  obtain ⟨u, rfl, du⟩ := dvs.un
  obtain ⟨a, ws, rfl, hj, hH, dl⟩ := ref_lst hr dx hi
  obtain ⟨a1, a2⟩ := write_lst hr hj (dl.append (.one du))
  exact ⟨a, ws, u, rfl, rfl, hH, by rw [dl.length]; exact hz, k ρ .non _ _ _ a2 a1 rfl q⟩
def mPop : DM := fun x xs h Q => ∃ i l y, x = .ref i ∧ xs = [] ∧ h[i]? = some (.lst l) ∧ l[l.length - 1]? = some y ∧ Q y (h.set i (.lst l.dropLast))
theorem DVs.dropLast {ρ : List Addr} {H : Hp} {l : List D} {vs : List V} (d : DVs K ρ H l vs) : DVs K ρ H l.dropLast vs.dropLast := by
  rw [List.dropLast_eq_take, List.dropLast_eq_take, d.length]; exact d.take _
theorem DVs.eraseIdx {ρ : List Addr} {H : Hp} {l : List D} {vs : List V} (n : Nat) (d : DVs K ρ H l vs) : DVs K ρ H (l.eraseIdx n) (vs.eraseIdx n) := by
  rw [List.eraseIdx_eq_take_drop_succ, List.eraseIdx_eq_take_drop_succ]; exact (d.take _).append (d.drop _)
theorem L_pop : LMok K mPop rPop := by
  intro ρ h H x xs v vs Qd Q hr dx dvs w k
  obtain ⟨i, l, y, rfl, rfl, hi, hy, q⟩ := w
  have ev : vs = [] := dvs
  subst ev
  obtain ⟨a, ws, rfl, hj, hH, dl⟩ := ref_lst hr dx hi
  obtain ⟨u, hu, du⟩ := dl.get hy
  obtain ⟨a1, a2⟩ := write_lst hr hj dl.dropLast
  exact ⟨a, ws, u, rfl, rfl, hH, by rw [dl.length]; exact hu, k ρ y _ _ _ a2 a1 (du.ext a2) q⟩
def mPopAt : DM := fun x xs h Q => ∃ i l j n y, x = .ref i ∧ xs = [.int j] ∧ h[i]? = some (.lst l) ∧ -(2 ^ 63) ≤ j ∧ j < 2 ^ 63 ∧ seqIndex? j l.length = some n ∧ l[n]? = some y ∧ Q y (h.set i (.lst (l.eraseIdx n)))
theorem L_popAt : LMok K mPopAt rPopAt := by
  intro ρ h H x xs v vs Qd Q hr dx dvs w k
  obtain ⟨i, l, j, n, y, rfl, rfl, hi, b1, b2, hn, hy, q⟩ := w
  obtain ⟨u', rfl, du'⟩ := dvs.un
  have ev : u' = .int j := du'
  subst ev
  obtain ⟨a, ws, rfl, hj, hH, dl⟩ := ref_lst hr dx hi
  obtain ⟨u, hu, du⟩ := dl.get hy
  obtain ⟨a1, a2⟩ := write_lst hr hj (dl.eraseIdx n)
  exact ⟨a, ws, j, n, u, rfl, rfl, hH, b1, b2, by rw [dl.length]; exact hn, hu, k ρ y _ _ _ a2 a1 (du.ext a2) q⟩
def mExt : DM := fun x xs h Q => ∃ i l y m, x = .ref i ∧ xs = [y] ∧ h[i]? = some (.lst l) ∧ asX h y = some m ∧ l.length + m.length ≤ sizeLine ∧ Q .non (h.set i (.lst (l ++ m)))
theorem L_ext : LMok K mExt rExtend := by
  intro ρ h H x xs v vs Qd Q hr dx dvs w k
  obtain ⟨i, l, y, m, rfl, rfl, hi, hm, hz, q⟩ := w
  obtain ⟨u, rfl, du⟩ := dvs.un
  obtain ⟨a, ws, rfl, hj, hH, dl⟩ := ref_lst hr dx hi
  obtain ⟨b, us, rfl, hB, dm⟩ := asX_at hr du hm
  obtain ⟨a1, a2⟩ := write_lst hr hj (dl.append dm)
  exact ⟨a, b, ws, us, rfl, rfl, hH, hB, by rw [dl.length, dm.length]; exact hz, k ρ .non _ _ _ a2 a1 rfl q⟩
end
theorem se_append {o : Expr} {dd : DE} {apos : Pos} (ho : SE X W o dd) (ha : SA X W (e :: es) ts) (hbase : attributeBase o "append" X.env (eval o X.env) = eval o X.env := by rfl)
    (hfew : ((backTo pos (starEach (e :: es) X.env)).all (fun x => !x.1) && (backToKw pos (keywordEach [] X.env)).all (fun x => x.1.isSome)
      && decide ((e :: es).length + ([] : List Keyword).length + (if ([] : List Keyword).isEmpty then 0 else 1) < 30)) = true := by rfl)
    (hline : (apos.endLine == pos.line) = true := by rfl) (hs : starEach (e :: es) X.env = (false, eval e X.env) :: starEach es X.env := by rfl) (hplain : (backTo pos (starEach es X.env)).any (·.1) = false := by rfl) :
    SE X W (.Call (.Attribute o "append" apos) (e :: es) [] pos) (dBM "list" mApp dd ts) := se_bm PySem.F.plainAttrs_list PySem.F.slot_list_append PySem.F.type_list_append mt_append L_app ho ha hbase hfew hline hs hplain
/-- n.bit_length() -/
def dBits (dd : DE) : DE := fun σ h X Q => dd σ h X fun x h1 => ∃ i, x = .int i ∧ Q (.int (Builtin.Int.intBits i : Nat)) h1
theorem se_bits {o : Expr} {dd : DE} {apos : Pos} (ho : SE X W o dd) (hbase : attributeBase o "bit_length" X.env (eval o X.env) = eval o X.env := by rfl) (hline : (apos.endLine == pos.line) = true := by rfl) :
    SE X W (.Call (.Attribute o "bit_length" apos) [] [] pos) (dBits dd) := PE.imp (pe_bits ho hbase hline) fun σ H Q w => by
  obtain ⟨ρ, σd, h, Xd, Qd, hr, sr, w, kx, k⟩ := w
  refine ⟨ρ, σd, h, Xd, _, hr, sr, w, kx, fun ρ1 d h1 v H1 e1 hr1 dv q => ?_⟩
  obtain ⟨i, rfl, q⟩ := q
  exact ⟨i, dv, k ρ1 (.int (Builtin.Int.intBits i : Nat)) h1 _ H1 e1 hr1 rfl q⟩

/-! ### slices -/
abbrev DO := DSt → DHp → DX → (Option Int → DHp → Prop) → Prop
def lO (K : PySem.W.Frag) (W : WX) (t : DO) : TO := fun σ H Q => ∃ ρ σd h Xd Qd, HR K ρ h H ∧ SR K ρ H σd σ ∧ t σd h Xd Qd ∧ XW K W ρ H σd σ Xd ∧
  ∀ ρ' o h' H', Ext ρ H ρ' H' → HR K ρ' h' H' → Qd o h' → Q o H'
abbrev SO (X : Cx) (W : WX) (o : Option Expr) (t : DO) : Prop := PO X o (lO X.K W t)
theorem PO.imp {o : Option Expr} {t t' : TO} (h : PO X o t) (i : ∀ σ H Q, t' σ H Q → t σ H Q) : PO X o t' := ⟨fun pins s σ H Q I w => h.run pins s σ H Q I (i σ H Q w)⟩
def oNon : DO := fun _ h _ Q => Q none h
def oSome (de : DE) : DO := fun σ h X Q => de σ h X fun d h1 => ∃ i, d = .int i ∧ Q (some i) h1
theorem so_none : SO X W none oNon := PO.imp po_none fun σ H Q w => by
  obtain ⟨ρ, σd, h, Xd, Qd, hr, sr, w, kx, k⟩ := w
  exact k ρ none h H .refl hr w
theorem so_some {de : DE} (he : SE X W e de) : SO X W (some e) (oSome de) := PO.imp (po_some he) fun σ H Q w => by
  obtain ⟨ρ, σd, h, Xd, Qd, hr, sr, w, kx, k⟩ := w
  refine ⟨ρ, σd, h, Xd, _, hr, sr, w, kx, fun ρ1 d h1 v H1 e1 hr1 dv q => ?_⟩
  obtain ⟨i, rfl, q⟩ := q
  exact ⟨i, dv, k ρ1 (some i) h1 H1 e1 hr1 q⟩
def cutD (l : List D) (lo hi : Option Int) : List D := (l.drop (HT.sIx l.length 0 lo)).take (HT.sIx l.length l.length hi - HT.sIx l.length 0 lo)
theorem DVs.cut' {K : PySem.W.Frag} {ρ : List Addr} {H : Hp} {l : List D} {vs : List V} (d : DVs K ρ H l vs) (lo hi : Option Int) : DVs K ρ H (cutD l lo hi) (cutV vs lo hi) := by
  unfold cutD cutV
  rw [d.length]
  exact (d.drop _).take _
/-- x[lo:hi]: a list (not to be changed), a tuple -/
def dSl (dd : DE) (tl th : DO) : DE := fun σ h X Q => dd σ h X fun x h1 => tl σ h1 X fun lo h2 => th σ h2 X fun hi h3 => match x with
  | .tup l => Q (.tup (cutD l lo hi)) h3
  | x => ∃ l, asL h3 x = some l ∧ Q (.lst (cutD l lo hi)) h3
def dSlH (dd : DE) (tl th : DO) : DE := fun σ h X Q => dd σ h X fun x h1 => tl σ h1 X fun lo h2 => th σ h2 X fun hi h3 => ∃ l, asL h3 x = some l ∧ Q (.ref h3.length) (h3 ++ [.lst (cutD l lo hi)])
end
end L2.MW

/-! MW, part G: slices, isinstance, contracts of defs. -/
namespace L2.MW
open PySem PySem.Spec PyProof.Rows
section
variable {X : Cx} {W : WX} {pos p p2 : Pos} {e : Expr} {es : List Expr} {ts : DA} {lo hi : Option Expr} {de : DE} {tl th : DO}
/-! ### slices -/
theorem sl_go {K : PySem.W.Frag} {r : V → Option Int → Option Int → Hp → VK → Prop} {f : D → Option Int → Option Int → DHp → DK → Prop} {σ : St} {H : Hp} {Q : VK}
    (L : ∀ ρ h H x v l u Qd Q, HR K ρ h H → DV K ρ H x v → f x l u h Qd → (∀ ρ' d h' v H', Ext ρ H ρ' H' → HR K ρ' h' H' → DV K ρ' H' d v → Qd d h' → Q v H') → r v l u H Q)
    (w : lE K W (fun σ h X Q => de σ h X fun x h1 => tl σ h1 X fun l h2 => th σ h2 X fun u h3 => f x l u h3 Q) σ H Q) : tSl r (lE K W de) (lO K W tl) (lO K W th) σ H Q := by
  obtain ⟨ρ, σd, h, Xd, Qd, hr, sr, w, kx, k⟩ := w
  refine lE.go hr sr w kx fun ρ1 d1 h1 v1 H1 e1 hr1 sr1 kx1 dv1 w1 => ?_
  refine ⟨ρ1, σd, h1, Xd, _, hr1, sr1, w1, kx1, fun ρ2 l h2 H2 e2 hr2 w2 => ?_⟩
  refine ⟨ρ2, σd, h2, Xd, _, hr2, sr1.ext e2, w2, kx1.ext e2, fun ρ3 u h3 H3 e3 hr3 w3 => ?_⟩
  exact L ρ3 h3 H3 d1 v1 l u Qd Q hr3 (dv1.ext (e2.trans e3)) w3 fun ρ' d h' v H' e => k ρ' d h' v H' ((e1.trans (e2.trans e3)).trans e)
theorem se_slice (he : SE X W e de) (hl : SO X W lo tl) (hu : SO X W hi th) : SE X W (.Subscript e (.Slice lo hi none p2) pos) (dSl de tl th) := PE.imp (pe_slice (sl_tupA.or sl_list) he hl hu) fun σ H Q w => by
  refine sl_go (f := fun x lo hi h3 Q => match x with | .tup l => Q (.tup (cutD l lo hi)) h3 | x => ∃ l, asL h3 x = some l ∧ Q (.lst (cutD l lo hi)) h3) (fun ρ h H x v l u Qd Q hr dx w k => ?_) w
  have lists : (∃ m, asL h x = some m ∧ Qd (.lst (cutD m l u)) h) → rSlA X.K v l u H Q ∨ rSlL X.K v l u H Q := by
    rintro ⟨m, em, q⟩
    obtain ⟨a, vs, rfl, hq, dvs⟩ := asL_at hr dx em
    exact .inr ⟨a, vs, rfl, hq, fun p np => k ρ _ h _ _ (.new1 np) (hr.new1 np) (.lstNew hr np (dvs.cut' l u)) q⟩
  cases x with
  | tup m =>
    have dx' := dx
    obtain ⟨a, vs, rfl, h1, dvs⟩ := dx
    refine .inl ⟨a, vs, rfl, h1.sq, fun hw => ?_, fun _ p np => k ρ _ h _ _ (.new1 np) (hr.new1 np) (.tupNew hr np (dvs.cut' l u)) w⟩
    have ec : cutD m l u = m := by
      unfold cutD
      rw [dvs.length] at hw
      rw [hw.1, hw.2, List.drop_zero, Nat.sub_zero, List.take_length]
    have w' : Qd (.tup (cutD m l u)) h := w
    rw [ec] at w'
    exact k ρ (.tup m) h _ H .refl hr dx' w'
  | lst _ => exact lists w
  | fz _ => exact lists w
  | ref _ => exact lists w
  | non => exact lists w
  | bl _ => exact lists w
  | int _ => exact lists w
  | str _ => exact lists w
  | obj _ _ => exact lists w
  | ty _ => exact lists w
  | cls _ => exact lists w
theorem se_sliceH (he : SE X W e de) (hl : SO X W lo tl) (hu : SO X W hi th) : SE X W (.Subscript e (.Slice lo hi none p2) pos) (dSlH de tl th) := PE.imp (pe_slice sl_list he hl hu) fun σ H Q w => by
  refine sl_go (f := fun x lo hi h3 Q => ∃ l, asL h3 x = some l ∧ Q (D.ref h3.length) (h3 ++ [HB.lst (cutD l lo hi)])) (fun ρ h H x v l u Qd Q hr dx w k => ?_) w
  obtain ⟨m, em, q⟩ := w
  obtain ⟨a, vs, rfl, hq, dvs⟩ := asL_at hr dx em
  refine ⟨a, vs, rfl, hq, fun p np => ?_⟩
  obtain ⟨a1, a2⟩ := push_lst hr np (dvs.cut' l u)
  exact k _ _ _ _ _ (.push np) a1 a2 q

/-! ### isinstance -/
def tys : List String := ["NoneType", "bool", "int", "str", "tuple", "list"]
def tyD (h : DHp) : D → Option D
  | .non => some (.ty "NoneType")
  | .bl _ => some (.ty "bool")
  | .int _ => some (.ty "int")
  | .str _ => some (.ty "str")
  | .tup _ => some (.ty "tuple")
  | .lst _ => some (.ty "list")
  | .fz _ => some (.ty "list")
  | .ref i => (match h[i]? with
    | some (.lst _) => some (.ty "list")
    | some (.ins c _) => some (.cls c)
    | none => none)
  | .obj c _ => some (.cls c)
  | _ => none
def isaD (cs : List String) : D → D → Option Bool
  | .ty a, .ty b => if a ∈ tys ∧ b ∈ tys then some (a == b || (a == "bool" && b == "int")) else none
  | .ty a, .cls c => if a ∈ tys ∧ c ∈ cs then some false else none
  | .cls c, .ty b => if c ∈ cs ∧ b ∈ tys then some false else none
  | .cls c, .cls c' => if c ∈ cs ∧ c' ∈ cs then some (c == c') else none
  | _, _ => none
def isaAny (cs : List String) (t : D) : List D → Option Bool
  | [] => some false
  | c :: r => match isaD cs t c with
    | some true => some true
    | some false => isaAny cs t r
    | none => none
def clsVal (K : PySem.W.Frag) : D → Value
  | .ty n => .type n
  | .cls c => .ref (He.ga K (Str.ofString c))
  | _ => .none
/-- what the written part says of the plain classes -/
def kitFB (K : PySem.W.Frag) (cs : List String) : Bool :=
  cs.all fun c => (He.Fa.cls (Str.ofString c)).ok K && (decide (PySem.W.findIn K (.ref (He.ga K (Str.ofString c))) "__class__" = some (some (.builtin "object.__class__"))) &&
    (decide (PySem.W.specialIn K (.builtin "object.__class__") "__get__" = some (some (.builtin "getset_descriptor.__get__"))) && (decide (PySem.W.takesIn K (.builtin "object.__class__") = some true) &&
    (decide (PySem.W.mroIn K (He.ga K (Str.ofString c)) (.type "object") = some true) &&
    (tys.all (fun n => decide (PySem.W.kitOne K (.ref (He.ga K (Str.ofString c))) (.type n) = some false) && decide (PySem.W.kitOne K (.type n) (.ref (He.ga K (Str.ofString c))) = some false)) &&
    cs.all fun c' => decide (PySem.W.kitOne K (.ref (He.ga K (Str.ofString c))) (.ref (He.ga K (Str.ofString c'))) = some (c == c')))))))
structure KitF (K : PySem.W.Frag) (cs : List String) : Prop where
  ok : kitFB K cs = true
theorem kit_tys : ∀ a ∈ tys, ∀ b ∈ tys, kitB a b = some (a == b || (a == "bool" && b == "int")) := by decide +kernel
theorem isaD_ok {K : PySem.W.Frag} {cs : List String} (F : KitF K cs) {t c : D} {b : Bool} (h : isaD cs t c = some b) : PySem.W.kitOne K (clsVal K t) (clsVal K c) = some b := by
  have F' := List.all_eq_true.mp F.ok
  cases t with
  | ty a =>
    cases c with
    | ty n =>
      have h' : (if a ∈ tys ∧ n ∈ tys then some (a == n || (a == "bool" && n == "int")) else none) = some b := h
      split at h'
      · rename_i z
        exact kit_ty ((kit_tys a z.1 n z.2).trans h')
      · cases h'
    | cls c =>
      have h' : (if a ∈ tys ∧ c ∈ cs then some false else none) = some b := h
      split at h'
      · rename_i z
        cases h'
        have q := F' c z.2
        simp only [Bool.and_eq_true, List.all_eq_true, decide_eq_true_eq] at q
        exact (q.2.2.2.2.2.1 a z.1).2
      · cases h'
    | _ => cases h
  | cls c0 =>
    cases c with
    | ty n =>
      have h' : (if c0 ∈ cs ∧ n ∈ tys then some false else none) = some b := h
      split at h'
      · rename_i z
        cases h'
        have q := F' c0 z.1
        simp only [Bool.and_eq_true, List.all_eq_true, decide_eq_true_eq] at q
        exact (q.2.2.2.2.2.1 n z.2).1
      · cases h'
    | cls c =>
      have h' : (if c0 ∈ cs ∧ c ∈ cs then some (c0 == c) else none) = some b := h
      split at h'
      · rename_i z
        cases h'
        have q := F' c0 z.1
        simp only [Bool.and_eq_true, List.all_eq_true, decide_eq_true_eq] at q
        exact q.2.2.2.2.2.2 c z.2
      · cases h'
    | _ => cases h
  | _ => cases c <;> cases h
theorem isaAny_ok {K : PySem.W.Frag} {cs : List String} (F : KitF K cs) {t : D} : ∀ {l : List D} {b : Bool}, isaAny cs t l = some b → PySem.W.kitAny K (clsVal K t) (l.map (clsVal K)) = some b
  | [], _, h => h
  | c :: r, b, h => by
    unfold isaAny at h
    cases q : isaD cs t c with
    | none => rw [q] at h; cases h
    | some b1 =>
      rw [q] at h
      refine kitAny_cons (isaD_ok F q) (fun e => ?_) (fun e => ?_)
      · subst e; exact isaAny_ok F h
      · subst e; cases h; rfl
/-- the class of an own instance is one of cs -/
def tyIn (cs : List String) : D → Prop
  | .cls c => c ∈ cs
  | _ => True
theorem tyD_ok {K : PySem.W.Frag} {cs : List String} {ρ : List Addr} {h : DHp} {H : Hp} (F : KitF K cs) (hr : HR K ρ h H) {x t : D} {v : V} (dv : DV K ρ H x v) (e : tyD h x = some t) (ht : tyIn cs t) : TyX K H v (clsVal K t) := by
  have F' := List.all_eq_true.mp F.ok
  have own : ∀ c a dx ws, c ∈ cs → H a = some (.ins (He.ga K (Str.ofString c)) dx ws) → TyX K H (.ref a) (.ref (He.ga K (Str.ofString c))) := fun c a dx ws hc hH => by
    have q := F' c hc
    simp only [Bool.and_eq_true, List.all_eq_true, decide_eq_true_eq] at q
    exact .base (.ins hH (He.cls_ok q.1) q.2.1 q.2.2.1 q.2.2.2.1 q.2.2.2.2.1)
  cases x with
  | non => have z : v = .non := dv; subst z; cases e; exact .base .non
  | bl b => have z : v = .bl b := dv; subst z; cases e; exact .base (.bl b)
  | int i => have z : v = .int i := dv; subst z; cases e; exact .base (.int i)
  | str z => have z : v = .str z := dv; subst z; cases e; exact .base (.str _)
  | tup l =>
    obtain ⟨a, vs, rfl, h1, _⟩ := dv
    cases e
    exact .base (.tup h1.2)
  | lst l => obtain ⟨a, vs, rfl, h1, _⟩ := dv; cases e; exact .base (.lst h1.2)
  | fz l =>
    obtain ⟨a, vs, rfl, h1, _⟩ := dv
    cases e
    rcases h1 with ⟨_, h1 | ⟨o, h1⟩⟩ | ⟨o, its, n, hk, hc, _⟩
    · exact .base (.lst h1)
    · exact .base (.frz h1)
    · exact .kList hk hc
  | ref i =>
    obtain ⟨a, rfl, hi⟩ := dv
    have e' : (match h[i]? with | some (.lst _) => some (D.ty "list") | some (.ins c _) => some (.cls c) | none => none) = some t := e
    cases q : h[i]? with
    | none => rw [q] at e'; cases e'
    | some b =>
      rw [q] at e'
      have z := hr.at_ i b a q hi
      cases b with
      | lst l => obtain ⟨vs, z1, _⟩ := z; cases e'; exact .base (.lst z1)
      | ins c fs => obtain ⟨dx, ws, z1, _⟩ := z; cases e'; exact own c a dx ws ht z1
  | obj c fs =>
    obtain ⟨a, dx, ws, rfl, _, z1, _⟩ := dv
    cases e
    exact own c a dx ws ht z1
  | ty _ => cases e
  | cls _ => cases e
def isClsD : D → Prop
  | .ty _ => True
  | .cls _ => True
  | _ => False
def nIsi (cs : List String) : DN := fun ds h Q => ∃ x c t b, ds = [x, c] ∧ tyD h x = some t ∧ tyIn cs t ∧ (match c with
  | .tup l => (∀ y ∈ l, isClsD y) ∧ isaAny cs t l = some b
  | c => isaD cs t c = some b) ∧ Q (.bl b) h
theorem clsD_at {K : PySem.W.Frag} {ρ : List Addr} {H : Hp} {c : D} {v : V} (hc : isClsD c) (dv : DV K ρ H c v) : ClsV v (clsVal K c) := by
  cases c with
  | ty n => have z : v = .ty n := dv; subst z; exact .ty n
  | cls n => have z : v = .ref _ := dv; subst z; exact .own _
  | _ => exact hc.elim
theorem clsDs_at {K : PySem.W.Frag} {ρ : List Addr} {H : Hp} : ∀ {l : List D} {vs : List V}, (∀ y ∈ l, isClsD y) → DVs K ρ H l vs → Paired ClsV vs (l.map (clsVal K))
  | [], _, _, d => by rw [show _ = [] from d]; exact .nil
  | c :: l, _, hc, ⟨v, r, e, d1, d2⟩ => by subst e; exact .cons (clsD_at (hc c List.mem_cons_self) d1) (clsDs_at (fun y hy => hc y (List.mem_cons_of_mem _ hy)) d2)
theorem clsV_vals : ∀ {vs : List V} {us ws : List Value}, Paired ClsV vs us → Vals vs ws → ws = us := ClsV.all
theorem isaD_cls {cs : List String} {t c : D} {b : Bool} (h : isaD cs t c = some b) : isClsD c := by
  cases c with
  | ty _ => trivial
  | cls _ => trivial
  | _ => cases t <;> cases h
theorem L_isi {K : PySem.W.Frag} {cs : List String} (F : KitF K cs) : LNok K (nIsi cs) (fun xs H Q => rIsi K xs H Q ∨ rIsiT K xs H Q) := by
  intro ρ h H xs vs Qd Q hr dvs w k
  obtain ⟨x, c, t, b, rfl, ht, hin, hb, q⟩ := w
  obtain ⟨v, v', rfl, d1, d2⟩ := dvs.bi
  have fin := k ρ (.bl b) h _ H .refl hr rfl q
  have ty := tyD_ok F hr d1 ht hin
  have one : isaD cs t c = some b → rIsi K [v, v'] H Q := fun hb => ⟨v, v', clsVal K t, clsVal K c, b, rfl, clsD_at (isaD_cls hb) d2, ty, isaD_ok F hb, fin⟩
  cases c with
  | tup l =>
    obtain ⟨a, ws, rfl, h1, h2⟩ := d2
    exact .inr ⟨v, a, ws, clsVal K t, l.map (clsVal K), b, rfl, h1.2, clsDs_at hb.1 h2, ty, isaAny_ok F hb.2, fin⟩
  | ty n => exact .inl (one hb)
  | cls n => exact .inl (one hb)
  | non => exact .inl (one hb)
  | bl _ => exact .inl (one hb)
  | int _ => exact .inl (one hb)
  | str _ => exact .inl (one hb)
  | lst _ => exact .inl (one hb)
  | fz _ => exact .inl (one hb)
  | ref _ => exact .inl (one hb)
  | obj _ _ => exact .inl (one hb)
theorem se_isi {cs : List String} (F : KitF X.K cs) (hm : X.mg "isinstance" = none) (ha : SA X W (e :: es) ts) (hg : Gl X "isinstance" := by rfl) (he : starEach (e :: es) X.env = (false, eval e X.env) :: starEach es X.env := by rfl) (hpl : (backTo pos (starEach es X.env)).any (·.1) = false := by rfl) :
    SE X W (.Call (.Name "isinstance" p) (e :: es) [] pos) (dCB (nIsi cs) ts) := se_cb (call_isi.or call_isiT) (L_isi F) hg hm (by decide +kernel) ha (he := he) (hpl := hpl)
/-- a built-in class, an own class as a value -/
theorem se_ty {x : Str} {n : String} (hg : Gl X x) (hm : X.mg x = none) (hv : bootBuiltins x = some (.type n)) (hn : x ≠ "__name__" := by decide) (hd : (x == ("__debug__" : Str)) = false := by decide) : SE X W (.Name x pos) (dC (.ty n)) := se_c (pe_bltn (v := .ty n) hg hm hv rfl hn hd) fun _ _ => rfl
theorem se_cls {c : String} (hm : X.mg (Str.ofString c) = some (.ref (He.ga X.K (Str.ofString c)))) (hg : Gl X (Str.ofString c) := by rfl) (hd : ((Str.ofString c) == ("__debug__" : Str)) = false := by decide) : SE X W (.Name (Str.ofString c) pos) (dC (.cls c)) :=
  se_c (pe_glob (v := .ref (He.ga X.K (Str.ofString c))) hg hm rfl hd) fun _ _ => rfl
end

/-! ### contracts -/
abbrev Ct := List D → DHp → DX → DK → Prop
def spOf (K : PySem.W.Frag) (n : Nat) (c : Ct) : Sp := fun vs H Q E => ∃ ρ ds h Xd Qd, ds.length = n ∧ HR K ρ h H ∧ DVs K ρ H ds vs ∧ c ds h Xd Qd ∧
  (∀ ρ' x h' cls d H', Ext ρ H ρ' H' → HR K ρ' h' H' → ExcAt K ρ' H' x cls d → Xd x h' → E cls d H') ∧
  ∀ ρ' d h' v H', Ext ρ H ρ' H' → HR K ρ' h' H' → DV K ρ' H' d v → Qd d h' → Q v H'
/-- the def that the module calls x keeps the contract c -/
structure FnC (P : Program) (w : World) (K : PySem.W.Frag) (mg : Str → Option Value) (base : Heap) (k : Nat) (x : Str) (n : Nat) (c : Ct) : Prop where
  ex : ∃ f fd ps, ps.length = n ∧ FnOk P w K mg base (L2.CX P w) k f fd ps (spOf K n c) ∧ mg x = some (.ref f) ∧ PySem.W.keepIn K (.ref f) = true ∧ Binds K fd ps []
def dCall (c : Ct) (n : Nat) (ts : DA) : DE := fun σ h X Q => ts σ h X fun ds h1 => ds.length = n ∧ c ds h1 X Q
section
variable {X : Cx} {W : WX} {pos p : Pos} {x : Str} {e : Expr} {es : List Expr} {ts : DA} {c : Ct} {n k : Nat}
theorem se_call (F : FnC X.prog X.w X.K X.mg X.base k x n c) (tk : Takes X W) (hr : Room k X.A) (ha : SA X W (e :: es) ts) (hg : Gl X x := by rfl) (hdb : (x == ("__debug__" : Str)) = false := by decide) (he : starEach (e :: es) X.env = (false, eval e X.env) :: starEach es X.env := by rfl)
    (hpl : (backTo pos (starEach es X.env)).any (·.1) = false := by rfl) : SE X W (.Call (.Name x p) (e :: es) [] pos) (dCall c n ts) := by
  obtain ⟨f, fd, ps, hps, F, hm, hk, hb⟩ := F.ex
  refine PE.imp (pe_callS F hr hg hm hk hb (fun σ => passAt tk σ) ha hdb he hpl) fun σ H Q w => ?_
  obtain ⟨ρ, σd, h, Xd, Qd, hr, sr, w, kx, k⟩ := w
  refine lA.go hr sr w kx fun ρ1 ds h1 vs H1 e1 hr1 sr1 kx1 dvs q => ?_
  exact ⟨ρ1, ds, h1, Xd, Qd, q.1, hr1, dvs, q.2, fun ρ' x h' cls d H' e hr' ea z => kx1 ρ' x h' cls d H' e hr' (sr1.ext e) ea z, fun ρ' d h' v H' e => k ρ' d h' v H' (e1.trans e)⟩
end
/-- what a call leaves: as it is; without the things made last; a list made in it, which will not change any more -/
inductive CutR (h0 : DHp) : D → DHp → D → DHp → Prop
  | keep (d : D) (h : DHp) : CutR h0 d h d h
  | cut (d : D) (g : DHp) : Bd h0.length d → CutR h0 d (h0 ++ g) d h0
  | frz (i : Nat) (l : List D) (g : DHp) : h0.length ≤ i → (h0 ++ g)[i]? = some (.lst l) → Bds h0.length l → CutR h0 (.ref i) (h0 ++ g) (.lst l) h0
def rtC (h0 : DHp) (Q : DK) : DK := fun d h => ∃ d' h', CutR h0 d h d' h' ∧ Q d' h'
def exC (h0 : DHp) (X : DX) : DX := fun x h => X x h ∨ ∃ g, h = h0 ++ g ∧ BdF h0.length x.fs ∧ X x h0
theorem rt_keep {h0 h : DHp} {Q : DK} {d : D} (q : Q d h) : rtC h0 Q d h := ⟨_, _, .keep d h, q⟩
theorem rt_cut {h0 g : DHp} {Q : DK} {d : D} (b : Bd h0.length d) (q : Q d h0) : rtC h0 Q d (h0 ++ g) := ⟨_, _, .cut d g b, q⟩
theorem rt_frz {h0 g : DHp} {Q : DK} {i : Nat} {l : List D} (hi : h0.length ≤ i) (e : (h0 ++ g)[i]? = some (.lst l)) (b : Bds h0.length l) (q : Q (.lst l) h0) : rtC h0 Q (.ref i) (h0 ++ g) := ⟨_, _, .frz i l g hi e b, q⟩
theorem rt_frz0 {h0 g : DHp} {Q : DK} {l : List D} (b : Bds h0.length l) (q : Q (.lst l) h0) : rtC h0 Q (.ref h0.length) (h0 ++ .lst l :: g) := rt_frz (Nat.le_refl _) (by rw [List.getElem?_append_right (Nat.le_refl _), Nat.sub_self]; rfl) b q
def endsD (h0 : DHp) (X : DX) (Q : DK) : DEnds := { nx := fun _ h => rtC h0 Q .non h, rt := rtC h0 Q, ex := fun x _ h => exC h0 X x h, n0 := h0.length }
def startD (N : Nat) (ds : List D) : DSt := ds.map some ++ List.replicate (N - ds.length) none
theorem CutR.at_ {K : PySem.W.Frag} {ρ0 ρ : List Addr} {h0 h h' : DHp} {H0 H : Hp} {d d' : D} {v : V} (c : CutR h0 d h d' h') (hr0 : HR K ρ0 h0 H0) (e : Ext ρ0 H0 ρ H) (hr : HR K ρ h H) (dv : DV K ρ H d v) : ∃ ρ', Ext ρ0 H0 ρ' H ∧ HR K ρ' h' H ∧ DV K ρ' H d' v := by
  cases c with
  | keep => exact ⟨ρ, e, hr, dv⟩
  | cut _ g b =>
    obtain ⟨t, rfl⟩ := e.pre
    exact ⟨ρ0, e.cut, hr.cut hr0.len hr0.bd, DV.cut _ _ (by rw [hr0.len]; exact b) dv⟩
  | frz i l g hi hl b =>
    obtain ⟨t, rfl⟩ := e.pre
    obtain ⟨a, rfl, hj⟩ := dv
    obtain ⟨vs, hH, dvs⟩ := hr.at_ i _ a hl hj
    refine ⟨ρ0, e.cut, hr.cut hr0.len hr0.bd, a, vs, rfl, ⟨fun z => ?_, hH⟩, DVs.cut _ _ (by rw [hr0.len]; exact b) dvs⟩
    have nd := (List.nodup_append.mp hr.nd).2.2
    rw [List.getElem?_append_right (by rw [hr0.len]; exact hi)] at hj
    exact nd a z a (List.mem_of_getElem? hj) rfl
theorem exc_cut {K : PySem.W.Frag} {ρ0 t : List Addr} {H : Hp} {x : Exc} {cls : Value} {d : Option Addr} (b : BdF ρ0.length x.fs) (h : ExcAt K (ρ0 ++ t) H x cls d) : ExcAt K ρ0 H x cls d := by
  obtain ⟨e, dd, ws, e2, n, hH, dfs⟩ := h
  exact ⟨e, dd, ws, e2, out_app n, hH, DFs.cut _ _ b dfs⟩
/-- a body's readings, whatever frame it runs in -/
def BodyC (P : Program) (w : World) (K : PySem.W.Frag) (mg : Str → Option Value) (base : Heap) (N : List Str) (qual : Str) (scope : Scope) (body : List Stmt) (k : Nat) (tb : DS) : Prop :=
  ∀ (f : Addr) (cd : Value) (A : Around) (outer : List Env) (s : Shared) (H : Hp) (E : XK), Room k (A.deeper (envOfC qual scope s.heap.objs.size f cd)) →
    Takes (cxOf (L2.CX P w) P w K mg base N qual scope f cd A outer s H E) (fun cls d _ H' => E cls d H') →
    PassesOwn (model P w) (A.deeper (envOfC qual scope s.heap.objs.size f cd)) (envOfC qual scope s.heap.objs.size f cd) (cxOf (L2.CX P w) P w K mg base N qual scope f cd A outer s H E).xe →
    SS (cxOf (L2.CX P w) P w K mg base N qual scope f cd A outer s H E) (fun cls d _ H' => E cls d H') body tb
theorem start_sr {K : PySem.W.Frag} {ρ : List Addr} {H : Hp} {ds : List D} {vs : List V} {N : List Str} (d : DVs K ρ H ds vs) : SR K ρ H (startD N.length ds) (start N vs) := by
  have hl := d.length
  refine ⟨by unfold startD start; simp [hl], fun i x h => ?_⟩
  unfold startD at h
  unfold start
  by_cases hi : i < ds.length
  · rw [List.getElem?_append_left (by simpa using hi), List.getElem?_map] at h
    cases q : ds[i]? with
    | none => rw [q] at h; cases h
    | some y =>
      rw [q] at h
      have e : y = x := by simpa using h
      subst e
      obtain ⟨v, hv, dv⟩ := d.get q
      exact ⟨v, by rw [List.getElem?_append_left (by rw [List.length_map, hl]; exact hi), List.getElem?_map, hv]; rfl, dv⟩
  · rw [List.getElem?_append_right (by simpa using hi), List.getElem?_replicate] at h
    split at h <;> cases h
theorem fn_ok {P : Program} {w : World} {K : PySem.W.Frag} {mg : Str → Option Value} {base : Heap} {k : Nat} {name qual : Str} {params : Arguments} {body : List Stmt} {scope : Scope} {kws : List (Str × V)} {f : Addr} {fd : FuncData} {N ps : List Str} {c : Ct} {tb : DS}
    (F : FunD K name qual params body scope [] kws f fd) (S : FnScope N ps scope) (hb : BodyC P w K mg base N qual scope body k tb)
    (read : ∀ ds h Xd Q, ds.length = ps.length → c ds h Xd Q → tb (endsD h Xd Q) (startD N.length ds) h) : FnOk P w K mg base (L2.CX P w) (k + 1) f fd ps (spOf K ps.length c) := by
  refine F.ok S (fun vs H Q E h => ?_) (fun cdv A outer s H vs Q E hr h => ?_)
  · obtain ⟨ρ, ds, hp, Xd, Qd, hn, _, dvs, _⟩ := h
    rw [dvs.length]; exact hn
  · obtain ⟨ρ, ds, hp, Xd, Qd, hn, hR, dvs, hc, hx, hq⟩ := h
    refine ⟨_, hb f cdv A outer s H E hr (takes_of rfl rfl rfl rfl) (passes_of rfl), ρ, H, ρ, startD N.length ds, hp, endsD hp Xd Qd, .refl, hR, start_sr dvs, read ds hp Xd Qd hn hc, ⟨hR.len.symm, ?_, ?_, ?_, ?_, ?_⟩⟩
    · intro ρ1 σd h1 σ H1 e1 hr1 sr1 q
      obtain ⟨d', h', cr, q⟩ := q
      obtain ⟨ρ', e', hr', dv'⟩ := cr.at_ hR e1 hr1 (v := .non) rfl
      exact hq ρ' d' h' _ H1 e' hr' dv' q
    · exact fun _ _ _ _ _ _ _ _ z => z.elim
    · exact fun _ _ _ _ _ _ _ _ z => z.elim
    · intro ρ1 d h1 v H1 e1 hr1 dv q
      obtain ⟨d', h', cr, q⟩ := q
      obtain ⟨ρ', e', hr', dv'⟩ := cr.at_ hR e1 hr1 dv
      exact hq ρ' d' h' _ H1 e' hr' dv' q
    · intro ρ1 x σd h1 cls d σ H1 e1 hr1 sr1 ea q
      rcases q with q | ⟨g, rfl, b, q⟩
      · exact hx ρ1 x h1 cls d H1 e1 hr1 ea q
      · obtain ⟨t, rfl⟩ := e1.pre
        exact hx ρ x hp cls d H1 e1.cut (hr1.cut hR.len hR.bd) (exc_cut (by rw [hR.len]; exact b) ea) q
end L2.MW

/-! MW, part H: making, keywords, sorting, in, o[i] op= e, try that is run through. -/
namespace L2.MW
open PySem PySem.Spec PyProof.Rows

/-! ### making -/
/-- the class c of the module: its __init__ keeps the contract ci (of n arguments, the new one first) -/
structure MkC (P : Program) (w : World) (K : PySem.W.Frag) (mg : Str → Option Value) (base : Heap) (k : Nat) (c : String) (n : Nat) (ci : Ct) : Prop where
  ex : ∃ f fd ps, ps.length = n ∧ Mk K (He.ga K (Str.ofString c)) f ∧ FnOk P w K mg base (L2.CX P w) k f fd ps (spOf K n ci) ∧ mg (Str.ofString c) = some (.ref (He.ga K (Str.ofString c))) ∧ Binds K fd ps []
/-- what the contract of an __init__ must leave: the new one alone, its fields without it -/
def mkX (h0 : DHp) (X : DX) : DX := fun x h => ∃ g, h = h0 ++ g ∧ BdF h0.length x.fs ∧ X x h0
def mkQ (c : String) (h0 : DHp) (Q : DK) : DK := fun d h => d = .non ∧ ∃ fs g, h = h0 ++ .ins c fs :: g ∧ BdF h0.length fs ∧ Q (.obj c fs) h0
def dMake (c : String) (ci : Ct) (n : Nat) (ts : DA) : DE := fun σ h X Q => ts σ h X fun ds h1 => ds.length + 1 = n ∧ ci (.ref h1.length :: ds) (h1 ++ [.ins c []]) (mkX h1 X) (mkQ c h1 Q)
section
variable {X : Cx} {W : WX} {pos p : Pos} {x : Str} {e : Expr} {es : List Expr} {ts : DA} {ci : Ct} {n k : Nat} {c : String}
def tMakeS (C : Addr) (sp : Sp) (E : St → XK) (t : TA) : TE := fun σ H Q => t σ H fun vs H1 => ∀ x dx, H1 x = none → H1 dx = none → dx ≠ x →
  sp (.ref x :: vs) (upd (upd H1 dx (.own x)) x (.ins C dx [])) (fun v H2 => v = .non ∧ Q (.ref x) H2) (E σ)
theorem run_makeS {C f : Addr} {fd : FuncData} {ps : List Str} {CX : CXT} {sp : Sp} {E : St → XK} {pins : List (Addr × Obj)} {σ : St} {H : Hp} {s : Shared} {Q : VK} {us : List Value} {vs : List V} (M : Mk X.K C f) (F : FnOk X.prog X.w X.K X.mg X.base CX k f fd ps sp) (hr : Room (k + 1) X.A) (hb : Binds X.K fd ps [])
    (hx : PassesAt CX X σ (E σ)) (I : Inv X pins σ H s) (r : Vals vs us)
    (h : ∀ x dx, H x = none → H dx = none → dx ≠ x → sp (.ref x :: vs) (upd (upd H dx (.own x)) x (.ins C dx [])) (fun v H2 => v = .non ∧ Q (.ref x) H2) (E σ)) :
    wpAny (model X.prog X.w) X.A (call (.ref C) us) (EP X pins σ Q) X.xe s := by
  have hq := h (s.heap.objs.size + 1) s.heap.objs.size (I.hok.fresh (Nat.le_succ _)) (I.hok.fresh (Nat.le_refl _)) (Nat.ne_of_lt (Nat.lt_succ_self _))
  have I2 := Inv.made (C := C) I
  have r2 : Vals (V.ref (s.heap.objs.size + 1) :: vs) (Value.ref (s.heap.objs.size + 1) :: us) := .cons rfl r
  have hl : (Value.ref (s.heap.objs.size + 1) :: us).length = ps.length := by
    have e := r2.length
    rw [F.len _ _ _ _ hq] at e
    exact e.symm
  have b := hb { s with heap := (s.heap.push PySem.W.emptyDict).push (PySem.W.instObj C s.heap.objs.size) } (Value.ref (s.heap.objs.size + 1) :: us) I2.kIn (by rw [List.append_nil]; exact hl)
  rw [List.append_nil] at b
  refine wpAny_call (make_map (f := f) I.kIn M.makes M.init (beq_iff_eq.mp M.fn) (codeAny_mono (F.run _ X.stack _ _ ⟨Value.ref (s.heap.objs.size + 1) :: us, []⟩ (Value.ref (s.heap.objs.size + 1) :: us) _ _ (E σ) (hr.make C us [])
    (I2.env0.make C us []) b r2 hq) fun r s' hq' => ?_))
  cases r with
  | error e => exact hx pins _ _ e s' I2 hq'
  | ok fl =>
    cases fl with
    | ret u =>
      obtain ⟨v, H', I3, rv, ev, q3⟩ := I2.after hq'
      subst ev
      exact ⟨rv, ⟨V.ref (s.heap.objs.size + 1), H', I3, rfl, q3⟩⟩
    | next => exact False.elim hq'
    | brk => exact False.elim hq'
    | cont => exact False.elim hq'
theorem pe_makeS {C f : Addr} {fd : FuncData} {ps : List Str} {CX : CXT} {sp : Sp} {E : St → XK} {t : TA} (M : Mk X.K C f) (F : FnOk X.prog X.w X.K X.mg X.base CX k f fd ps sp) (hr : Room (k + 1) X.A) (hg : Gl X x) (hm : X.mg x = some (.ref C)) (hb : Binds X.K fd ps []) (hx : ∀ σ, PassesAt CX X σ (E σ))
    (ha : PA X (e :: es) t) (hdb : (x == ("__debug__" : Str)) = false := by decide) (he : starEach (e :: es) X.env = (false, eval e X.env) :: starEach es X.env := by rfl) (hpl : (backTo pos (starEach es X.env)).any (·.1) = false := by rfl) :
    PE X (.Call (.Name x p) (e :: es) [] pos) (tMakeS C sp E t) := by
  refine ⟨fun pins s σ H Q I h => ?_⟩
  refine wpAny_Call_Name_kw (ld_glob I hg hm ?_ hdb)
  refine PySem.W.callWith_K (h₀ := X.base) I.ok.mod.kin M.kp (thn (ha.run pos pins s σ H _ I h) fun us s1 ⟨vs, H1, I1, r, q⟩ => ⟨I1.kIn, ?_⟩) he hpl
  exact run_makeS M F hr hb (hx σ) I1 r q
/-- a new instance among the changing things -/
theorem push_ins {K : PySem.W.Frag} {ρ : List Addr} {h : DHp} {H : Hp} {a dx : Addr} {c : String} (hr : HR K ρ h H) (na : H a = none) (nd : H dx = none) (hne : dx ≠ a) :
    HR K (ρ ++ [a]) (h ++ [.ins c []]) (upd (upd H dx (.own a)) a (.ins (He.ga K (Str.ofString c)) dx [])) ∧ Ext ρ H (ρ ++ [a]) (upd (upd H dx (.own a)) a (.ins (He.ga K (Str.ofString c)) dx [])) ∧ (ρ ++ [a])[h.length]? = some a := by
  have na' : upd H dx (.own a) a = none := by rw [upd_ne (Ne.symm hne)]; exact na
  have e1 : Ext ρ H ρ (upd H dx (.own a)) := .new1 nd
  refine ⟨(hr.new1 nd).push na' ⟨dx, [], upd_same, rfl⟩, e1.trans (.push na'), ?_⟩
  rw [← hr.len, List.getElem?_append_right (Nat.le_refl _), Nat.sub_self]; rfl
theorem mk_end {K : PySem.W.Frag} {ρ0 ρ : List Addr} {h0 : DHp} {H0 H : Hp} {a : Addr} {c : String} {fs : List (Str × D)} {g : DHp} (hr0 : HR K ρ0 h0 H0) (e : Ext ρ0 H0 ρ H) (hr : HR K ρ (h0 ++ .ins c fs :: g) H) (ha : ρ[h0.length]? = some a) (hb : BdF h0.length fs) :
    Ext ρ0 H0 ρ0 H ∧ HR K ρ0 h0 H ∧ DV K ρ0 H (.obj c fs) (.ref a) := by
  obtain ⟨t, rfl⟩ := e.pre
  obtain ⟨dx, ws, hH, dfs⟩ := hr.at_ h0.length (.ins c fs) a (by rw [List.getElem?_append_right (Nat.le_refl _), Nat.sub_self]; rfl) ha
  refine ⟨e.cut, hr.cut hr0.len hr0.bd, a, dx, ws, rfl, fun z => ?_, hH, DFs.cut _ _ (by rw [hr0.len]; exact hb) dfs⟩
  have nd := (List.nodup_append.mp hr.nd).2.2
  rw [← hr0.len, List.getElem?_append_right (Nat.le_refl _)] at ha
  exact nd a z a (List.mem_of_getElem? ha) rfl
theorem mk_go {K : PySem.W.Frag} {σ : St} {H : Hp} {Q : VK} (w : lE K W (dMake c ci n ts) σ H Q) : tMakeS (He.ga K (Str.ofString c)) (spOf K n ci) (WE W) (lA K W ts) σ H Q := by
  obtain ⟨ρ, σd, h, Xd, Qd, hr, sr, w, kx, k⟩ := w
  refine lA.go hr sr w kx fun ρ1 ds h1 vs H1 e1 hr1 sr1 kx1 dvs q => fun a dx na nd hne => ?_
  obtain ⟨p1, p2, p3⟩ := push_ins (c := c) hr1 na nd hne
  refine ⟨ρ1 ++ [a], .ref h1.length :: ds, h1 ++ [.ins c []], _, _, by rw [List.length_cons]; exact q.1, p1, ⟨_, _, rfl, ⟨a, rfl, p3⟩, DVs.ext p2 _ _ dvs⟩, q.2, ?_, ?_⟩
  · intro ρ' x h' cls d H' e' hr' ea z
    obtain ⟨g, rfl, b, z⟩ := z
    have e2 := p2.trans e'
    obtain ⟨t, rfl⟩ := e2.pre
    exact kx1 ρ1 x h1 cls d H' e2.cut (hr'.cut hr1.len hr1.bd) (sr1.ext e2.cut) (exc_cut (by rw [hr1.len]; exact b) ea) z
  · intro ρ' d h' v H' e' hr' dv z
    obtain ⟨rfl, fs, g, rfl, b, z⟩ := z
    have e2 := p2.trans e'
    obtain ⟨a1, a2, a3⟩ := mk_end hr1 e2 hr' (e'.get p3) b
    exact ⟨dv, k ρ1 _ h1 _ H' (e1.trans a1) a2 a3 z⟩
theorem se_make (M : MkC X.prog X.w X.K X.mg X.base k c n ci) (tk : Takes X W) (hr : Room (k + 1) X.A) (ha : SA X W (e :: es) ts) (hg : Gl X (Str.ofString c) := by rfl) (hdb : ((Str.ofString c) == ("__debug__" : Str)) = false := by decide)
    (he : starEach (e :: es) X.env = (false, eval e X.env) :: starEach es X.env := by rfl) (hpl : (backTo pos (starEach es X.env)).any (·.1) = false := by rfl) : SE X W (.Call (.Name (Str.ofString c) p) (e :: es) [] pos) (dMake c ci n ts) := by
  obtain ⟨f, fd, ps, hps, M1, F, hm, hb⟩ := M.ex
  exact PE.imp (pe_makeS M1 F hr hg hm hb (fun σ => passAt tk σ) ha hdb he hpl) fun σ H Q w => mk_go w

/-! ### keywords -/
theorem sk_nil : PK X [] (lA X.K W aNil) := by
  refine ⟨fun _ pins s σ H Q I h => ?_⟩
  obtain ⟨ρ, σd, hh, Xd, Qd, hr, sr, w, kx, k⟩ := h
  exact wpAny_evalAll_nil ⟨[], H, I, .nil, k ρ [] hh [] H .refl hr rfl w⟩
abbrev SK (X : Cx) (W : WX) (kws : List Keyword) (t : DA) : Prop := PK X kws (lA X.K W t)
theorem PK.imp {kws : List Keyword} {t t' : TA} (h : PK X kws t) (i : ∀ σ H Q, t' σ H Q → t σ H Q) : PK X kws t' := ⟨fun pos pins s σ H Q I w => h.run pos pins s σ H Q I (i σ H Q w)⟩
theorem sk_cons {nm : Option Str} {kpos : Pos} {kws : List Keyword} {da : DE} (ha : SE X W e da) (hs : SK X W kws ts) : SK X W (⟨nm, e, kpos⟩ :: kws) (aCons da ts) := PK.imp (pk_cons ha hs) fun σ H Q w => by
  obtain ⟨ρ, σd, h, Xd, Qd, hr, sr, w, kx, k⟩ := w
  refine lE.go hr sr w kx fun ρ1 d1 h1 v1 H1 e1 hr1 sr1 kx1 dv1 w1 => lA.go hr1 sr1 w1 kx1 fun ρ2 ds h2 vs H2 e2 hr2 sr2 kx2 dvs w2 => ?_
  exact k ρ2 (d1 :: ds) h2 _ H2 (e1.trans e2) hr2 ⟨v1, vs, rfl, dv1.ext e2, dvs⟩ w2
/-- the keywords' values in the parameters' order -/
def perm {α : Type} (q : List Nat) (l : List α) : List α := q.filterMap fun i => l[i]?
structure FnK (P : Program) (w : World) (K : PySem.W.Frag) (mg : Str → Option Value) (base : Heap) (k : Nat) (x : Str) (n : Nat) (ks : List Str) (q : List Nat) (c : Ct) : Prop where
  ex : ∃ f fd ps, ps.length = n ∧ FnOk P w K mg base (L2.CX P w) k f fd ps (spOf K n c) ∧ mg x = some (.ref f) ∧ PySem.W.keepIn K (.ref f) = true ∧
    ∀ (s : Shared) (ws : List Value), K.In s.heap → ws.length = ks.length → BindsTo s fd ⟨[], ks.zip ws⟩ (ps.zip (perm q ws))
def dCallK (c : Ct) (n m : Nat) (q : List Nat) (ts : DA) : DE := fun σ h X Q => ts σ h X fun ds h1 => ds.length = m ∧ (perm q ds).length = n ∧ c (perm q ds) h1 X Q
theorem DVs.perm {K : PySem.W.Frag} {ρ : List Addr} {H : Hp} {ds : List D} {vs : List V} (d : DVs K ρ H ds vs) : ∀ q : List Nat, DVs K ρ H (MW.perm q ds) (MW.perm q vs)
  | [] => rfl
  | i :: q => by
    have ih := DVs.perm d q
    unfold MW.perm at ih ⊢
    rw [List.filterMap_cons, List.filterMap_cons]
    cases h : ds[i]? with
    | none =>
      have hv : vs[i]? = none := List.getElem?_eq_none (by rw [d.length]; exact List.getElem?_eq_none_iff.mp h)
      rw [hv]; exact ih
    | some y =>
      obtain ⟨v, hv, dv⟩ := d.get h
      rw [hv]; exact ⟨v, _, rfl, dv, ih⟩
theorem Vals.perm {vs : List V} {us : List Value} (r : Vals vs us) : ∀ q : List Nat, Vals (MW.perm q vs) (MW.perm q us)
  | [] => .nil
  | i :: q => by
    have ih := Vals.perm r q
    unfold MW.perm at ih ⊢
    rw [List.filterMap_cons, List.filterMap_cons]
    cases h : vs[i]? with
    | none =>
      have hv : us[i]? = none := r.none_of h
      rw [hv]; exact ih
    | some y =>
      obtain ⟨v, hv, dv⟩ := r.get h
      rw [hv]; exact .cons dv ih
theorem se_callK {kws : List Keyword} {ks : List Str} {q : List Nat} {cc : Ct} (F : FnK X.prog X.w X.K X.mg X.base k x n ks q cc) (tk : Takes X W) (hr : Room k X.A) (hkw : SK X W kws ts) (hg : Gl X x := by rfl) (hall : (backToKw pos (keywordEach kws X.env)).all (·.1.isSome) = true := by rfl)
    (hks : (backToKw pos (keywordEach kws X.env)).filterMap (·.1) = ks := by rfl) (hdb : (x == ("__debug__" : Str)) = false := by decide)
    (hpl : ((backTo pos (starEach [] X.env)).any (·.1) || (backToKw pos (keywordEach kws X.env)).any (·.1.isNone)) = false := by rfl) : SE X W (.Call (.Name x p) [] kws pos) (dCallK cc n ks.length q ts) := by
  obtain ⟨f, fd, ps, hps, F, hm, hk, hb⟩ := F.ex
  refine ⟨fun pins s σ H Q I h => ?_⟩
  refine wpAny_Call_Name_kw (ld_glob I hg hm ?_ hdb)
  refine PySem.W.callWith_KW0 (h₀ := X.base) I.ok.mod.kin hk hall ?_ hpl
  obtain ⟨ρ, σd, hh, Xd, Qd, hR, sr, w, kx, kk⟩ := h
  refine thn (hkw.run pos pins s σ H (fun vs H1 => vs.length = ks.length ∧ spOf X.K n cc (MW.perm q vs) H1 Q (WE W σ)) I (lA.go hR sr w kx fun ρ1 ds h1 vs H1 e1 hr1 sr1 kx1 dvs z => ?_)) fun ws s2 ⟨zs, H2, I2, rz, l2, q2⟩ => ⟨I2.kIn, ?_⟩
  · exact ⟨by rw [dvs.length]; exact z.1, ρ1, MW.perm q ds, h1, Xd, Qd, z.2.1, hr1, dvs.perm q, z.2.2, fun ρ' x h' cls d H' e hr' ea z => kx1 ρ' x h' cls d H' e hr' (sr1.ext e) ea z, fun ρ' d h' v H' e => kk ρ' d h' v H' (e1.trans e)⟩
  · rw [hks]
    refine wpAny_call (codeAny_mono (F.run X.A X.stack s2 H2 ⟨[], ks.zip ws⟩ (MW.perm q ws) (MW.perm q zs) Q (WE W σ) hr I2.env0 (hb s2 ws I2.kIn (rz.length.symm.trans l2)) (Vals.perm rz q) q2) fun r s' hq => ?_)
    cases r with
    | error e => exact passAt tk σ pins H2 s2 e s' I2 hq
    | ok fl =>
      cases fl with
      | ret u => exact I2.after hq
      | next => exact False.elim hq
      | brk => exact False.elim hq
      | cont => exact False.elim hq
end

/-! ### sorted -/
section
variable {K : PySem.W.Frag}
def nSrtI : DN := fun ds h Q => ∃ d, ∃ ns : List Int, ds = [d] ∧ asL h d = some (ns.map D.int) ∧ ∀ ns' : List Int, ns'.Perm ns → ns'.Pairwise (· ≤ ·) → Q (.lst (ns'.map D.int)) h
theorem L_srtI : LNok K nSrtI (rSortedI K) := by
  intro ρ h H xs vs Qd Q hr dvs w k
  obtain ⟨d, ns, rfl, e, q⟩ := w
  obtain ⟨v, rfl, dv⟩ := dvs.un
  obtain ⟨a, vs, rfl, hq, ds⟩ := asL_at hr dv e
  rw [ds.ints] at hq
  exact ⟨a, ns, rfl, hq, fun ns' p h1 h2 np => k ρ _ h _ _ (.new1 np) (hr.new1 np) (.lstNew hr np DVs.of_ints) (q ns' h1 h2)⟩
def prD (p : Int × Int) : D := .tup [.int p.1, .int p.2]
/-- by the first, then by the second -/
def prLe (p q : Int × Int) : Prop := p.1 < q.1 ∨ (p.1 = q.1 ∧ p.2 ≤ q.2)
def nSrtP : DN := fun ds h Q => ∃ d, ∃ ps : List (Int × Int), ds = [d] ∧ asL h d = some (ps.map prD) ∧ ∀ ps' : List (Int × Int), ps'.Perm ps → ps'.Pairwise prLe → Q (.lst (ps'.map prD)) h
/-- the pair that stands at a value -/
def kP (H : Hp) : V → Int × Int
  | .ref t => (match H t with
    | some (.tup [.int i, .int j]) => (i, j)
    | _ => (0, 0))
  | _ => (0, 0)
theorem prs_at {ρ : List Addr} {H : Hp} : ∀ {ps : List (Int × Int)} {vs : List V}, DVs K ρ H (ps.map prD) vs → vs.map (kP H) = ps ∧ (∀ x ∈ vs, ∃ t, x = V.ref t ∧ H t = some (.tup [.int (kP H x).1, .int (kP H x).2])) ∧ ∀ x ∈ vs, DV K ρ H (prD (kP H x)) x
  | [], _, h => by rw [show _ = [] from h]; exact ⟨rfl, (fun x hx => by cases hx), (fun x hx => by cases hx)⟩
  | p :: ps, _, ⟨v, r, e, h1, h2⟩ => by
    subst e
    obtain ⟨a1, a2, a3⟩ := prs_at h2
    have hv : ∃ t, v = V.ref t ∧ H t = some (.tup [.int p.1, .int p.2]) := by
      obtain ⟨t, ws, rfl, ⟨_, ht⟩, u1, r1, rfl, d1, u2, r2, rfl, d2, rfl⟩ := h1
      have e1 : u1 = .int p.1 := d1
      have e2 : u2 = .int p.2 := d2
      subst e1 e2
      exact ⟨t, rfl, ht⟩
    obtain ⟨t, rfl, ht⟩ := hv
    have hk : kP H (.ref t) = p := by show (match H t with | some (.tup [.int i, .int j]) => (i, j) | _ => (0, 0)) = p; rw [ht]
    refine ⟨by rw [List.map_cons, hk, a1], fun x hx => ?_, fun x hx => ?_⟩
    · rcases List.mem_cons.mp hx with e | hx
      · subst e; exact ⟨t, rfl, by rw [hk]; exact ht⟩
      · exact a2 x hx
    · rcases List.mem_cons.mp hx with e | hx
      · subst e; rw [hk]; exact h1
      · exact a3 x hx
theorem DVs.of_all {ρ : List Addr} {H : Hp} {f : V → D} : ∀ {vs : List V}, (∀ x ∈ vs, DV K ρ H (f x) x) → DVs K ρ H (vs.map f) vs
  | [], _ => rfl
  | v :: vs, h => ⟨v, vs, rfl, h v List.mem_cons_self, DVs.of_all fun x hx => h x (List.mem_cons_of_mem _ hx)⟩
theorem L_srtP : LNok K nSrtP (rSortedPO K) := by
  intro ρ h H xs vs Qd Q hr dvs w k
  obtain ⟨d, ps, rfl, e, q⟩ := w
  obtain ⟨v, rfl, dv⟩ := dvs.un
  obtain ⟨a, vs, rfl, hq, ds⟩ := asL_at hr dv e
  obtain ⟨a1, a2, a3⟩ := prs_at ds
  refine ⟨a, vs, kP H, rfl, hq, a2, fun ys p hs hb np => ?_⟩
  have hm : ∀ x ∈ ys, x ∈ vs := fun x hx => hb.perm.mem_iff.mp hx
  have dy : DVs K ρ H ((ys.map (kP H)).map prD) ys := by
    rw [List.map_map]
    exact DVs.of_all (f := prD ∘ kP H) fun x hx => a3 x (hm x hx)
  have q' := q (ys.map (kP H)) (by rw [← a1]; exact hb.perm.map _) (by
    rw [List.pairwise_map]
    refine List.Pairwise.imp (fun {x y} hxy => ?_) hs
    have z := SrtO.lexB_no.mp hxy
    unfold prLe
    omega)
  exact k ρ _ h _ _ (.new1 np) (hr.new1 np) (.lstNew hr np dy) q'
end
section
variable {X : Cx} {W : WX} {pos p : Pos} {e : Expr} {es : List Expr} {ts : DA} {a b : Expr} {da db de : DE}
theorem se_sortI (hm : X.mg "sorted" = none) (ha : SA X W (e :: es) ts) (hg : Gl X "sorted" := by rfl) (he : starEach (e :: es) X.env = (false, eval e X.env) :: starEach es X.env := by rfl) (hpl : (backTo pos (starEach es X.env)).any (·.1) = false := by rfl) : SE X W (.Call (.Name "sorted" p) (e :: es) [] pos) (dCB nSrtI ts) := se_cb cr_sortedI L_srtI hg hm (by decide +kernel) ha (he := he) (hpl := hpl)
theorem se_sortP (hm : X.mg "sorted" = none) (ha : SA X W (e :: es) ts) (hg : Gl X "sorted" := by rfl) (he : starEach (e :: es) X.env = (false, eval e X.env) :: starEach es X.env := by rfl) (hpl : (backTo pos (starEach es X.env)).any (·.1) = false := by rfl) : SE X W (.Call (.Name "sorted" p) (e :: es) [] pos) (dCB nSrtP ts) := se_cb cr_sortedPO L_srtP hg hm (by decide +kernel) ha (he := he) (hpl := hpl)
/-! ### x in a list of data; a changed list by + -/
def dIn (neg : Bool) : D2 := fun x y h Q => ∃ l, rz h y = .lst l ∧ OkD 60 x ∧ OkD 60 (.lst l) ∧ Q (.bl (if neg then !(l.any fun z => deq z x) else l.any fun z => deq z x)) h
theorem toPs_any {l : List D} {x : D} : (toPs l).any (fun z => PyData.eqv z (toP x)) = l.any fun z => deq z x := by
  rw [toPs_map, List.any_map]; rfl
theorem rz_same {h : DHp} {x : D} (o : OkD 60 x) : rz h x = x := by
  cases x with
  | ref i => exact o.elim
  | _ => rfl
theorem in_at {K : PySem.W.Frag} {ρ : List Addr} {h : DHp} {H : Hp} {x y : D} {vx vy : V} {l : List D} (hr : HR K ρ h H) (dx : DV K ρ H x vx) (dy : DV K ρ H y vy) (e : rz h y = .lst l) (o1 : OkD 60 x) (o2 : OkD 60 (.lst l)) :
    Dp K H vx (toP x) ∧ Dp K H vy (.list (toPs l)) ∧ SeqAt.shaped (toP x) = true ∧ SeqAt.shaped (.list (toPs l)) = true := by
  obtain ⟨a1, a2⟩ := rz_dp hr dx (by rw [rz_same o1]; exact o1)
  rw [rz_same o1] at a1 a2
  obtain ⟨b1, b2⟩ := rz_dp hr dy (by rw [e]; exact o2)
  rw [e] at b1 b2
  exact ⟨a1, b1, a2, b2⟩
theorem L_in {K : PySem.W.Frag} : L2ok K (dIn false) (rInD K) := by
  intro ρ h H x y vx vy Qd Q hr dx dy w k
  obtain ⟨l, e, o1, o2, q⟩ := w
  obtain ⟨a1, b1, a2, b2⟩ := in_at hr dx dy e o1 o2
  refine ⟨_, _, a1, b1, a2, b2, ?_⟩
  rw [toPs_any]
  exact k ρ (.bl _) h _ H .refl hr rfl q
theorem L_notIn {K : PySem.W.Frag} : L2ok K (dIn true) (rNotInD K) := by
  intro ρ h H x y vx vy Qd Q hr dx dy w k
  obtain ⟨l, e, o1, o2, q⟩ := w
  obtain ⟨a1, b1, a2, b2⟩ := in_at hr dx dy e o1 o2
  refine ⟨_, _, a1, b1, a2, b2, ?_⟩
  rw [toPs_any]
  exact k ρ (.bl _) h _ H .refl hr rfl q
/-- x in a tuple of flat things -/
def flatD : D → Bool
  | .non => true
  | .bl _ => true
  | .int _ => true
  | .str _ => true
  | _ => false
def feq : D → D → Bool
  | .int i, .int j => i == j
  | _, _ => false
/-- an int in a tuple of ints -/
def dInT (neg : Bool) : D2 := fun x y h Q => ∃ i, ∃ ns : List Int, x = .int i ∧ y = .tup (ns.map D.int) ∧ Q (.bl (if neg then !(ns.any fun z => z == i) else ns.any fun z => z == i)) h
theorem inV_ints (i : Int) : ∀ ns : List Int, inV (.int i) (ns.map V.int) = ns.any fun z => z == i
  | [] => rfl
  | n :: ns => by
    unfold inV
    rw [List.map_cons, List.any_cons, List.any_cons]
    have := inV_ints i ns
    unfold inV at this
    rw [this]
    have : eqV (.int n) (.int i) = (n == i) := by simp [eqV, Bool.eq_iff_iff]
    rw [this]
theorem flat_ints : ∀ ns : List Int, (ns.map V.int).all flatV = true
  | [] => rfl
  | n :: ns => by rw [List.map_cons, List.all_cons, flat_ints ns]; rfl
theorem L_inT {K : PySem.W.Frag} {neg : Bool} : L2ok K (dInT neg) (rIn K neg) := by
  intro ρ h H x y vx vy Qd Q hr dx dy w k
  obtain ⟨i, ns, rfl, rfl, q⟩ := w
  obtain ⟨a, vs, rfl, h1, d1⟩ := dy
  have ev : vx = .int i := dx
  subst ev
  have e2 := d1.ints
  subst e2
  refine ⟨a, _, rfl, .inr h1.sq, rfl, flat_ints ns, ?_⟩
  rw [inV_ints]
  exact k ρ (.bl _) h _ H .refl hr rfl q
theorem se_in (hu : X.A.units + 65 < cLine) (ha : SE X W a da) (hb : SE X W b db) (hm : behindInMarks .In b = false := by rfl) : SE X W (.Compare a [.In] [b] pos) (dOp (dIn false) da db) := se_cmp (op_inD hu) L_in ha hb hm
theorem st_in (hu : X.A.units + 65 < cLine) (ha : SE X W a da) (hb : SE X W b db) (hm : behindInMarks .In b = false := by rfl) : ST X W (.Compare a [.In] [b] pos) (dTst (dOp (dIn false) da db)) := st_cmp (op_inD hu) L_in ha hb hm
theorem se_notIn (hu : X.A.units + 65 < cLine) (ha : SE X W a da) (hb : SE X W b db) (hm : behindInMarks .NotIn b = false := by rfl) : SE X W (.Compare a [.NotIn] [b] pos) (dOp (dIn true) da db) := se_cmp (op_notInD hu) L_notIn ha hb hm
theorem st_notIn (hu : X.A.units + 65 < cLine) (ha : SE X W a da) (hb : SE X W b db) (hm : behindInMarks .NotIn b = false := by rfl) : ST X W (.Compare a [.NotIn] [b] pos) (dTst (dOp (dIn true) da db)) := st_cmp (op_notInD hu) L_notIn ha hb hm
theorem st_inT (ha : SE X W a da) (hb : SE X W b db) (hm : behindInMarks .In b = false := by rfl) : ST X W (.Compare a [.In] [b] pos) (dTst (dOp (dInT false) da db)) := st_cmp op_in_seq L_inT ha hb hm
theorem st_notInT (ha : SE X W a da) (hb : SE X W b db) (hm : behindInMarks .NotIn b = false := by rfl) : ST X W (.Compare a [.NotIn] [b] pos) (dTst (dOp (dInT true) da db)) := st_cmp op_notIn_seq L_inT ha hb hm
/-- a list + a list, to be changed; a list times a number, to be changed -/
def dAddH : D2 := fun x y h Q => ∃ l m, asX h x = some l ∧ asX h y = some m ∧ l.length + m.length ≤ sizeLine ∧ Q (.ref h.length) (h ++ [.lst (l ++ m)])
theorem L_addH {K : PySem.W.Frag} : L2ok K dAddH rCat := by
  intro ρ h H x y vx vy Qd Q hr dx dy w k
  obtain ⟨l, m, e1, e2, hz, q⟩ := w
  obtain ⟨p, vs, rfl, h1, d1⟩ := asX_at hr dx e1
  obtain ⟨p', vs', rfl, h2, d2⟩ := asX_at hr dy e2
  refine ⟨p, p', vs, vs', rfl, rfl, h1, h2, by rw [d1.length, d2.length]; exact hz, fun n np => ?_⟩
  obtain ⟨a1, a2⟩ := push_lst hr np (d1.append d2)
  exact k _ _ _ _ _ (.push np) a1 a2 q
theorem se_addH (ha : SE X W a da) (hb : SE X W b db) : SE X W (.BinOp a .Add b pos) (dOp dAddH da db) := se_op op_cat L_addH ha hb
def dMulH : D2 := fun x y h Q => ∃ l j, asX h x = some l ∧ y = .int j ∧ -(2 ^ 63) ≤ j ∧ j < 2 ^ 63 ∧ l.length * j.toNat ≤ sizeLine ∧ Q (.ref h.length) (h ++ [.lst (List.replicate j.toNat l).flatten])
theorem L_mulH {K : PySem.W.Frag} : L2ok K dMulH rRep := by
  intro ρ h H x y vx vy Qd Q hr dx dy w k
  obtain ⟨l, j, e1, rfl, b1, b2, hz, q⟩ := w
  obtain ⟨p, vs, rfl, h1, d1⟩ := asX_at hr dx e1
  have ey : vy = .int j := dy
  subst ey
  refine ⟨p, j, vs, rfl, rfl, h1, b1, b2, by rw [d1.length]; exact hz, fun n np => ?_⟩
  obtain ⟨a1, a2⟩ := push_lst hr np (d1.rep j.toNat)
  exact k _ _ _ _ _ (.push np) a1 a2 q
theorem se_mulH (ha : SE X W a da) (hb : SE X W b db) : SE X W (.BinOp a .Mult b pos) (dOp dMulH da db) := se_op op_rep L_mulH ha hb
/-! ### reversed -/
theorem it_rev {K : PySem.W.Frag} {ρ0 : List Addr} {H0 : Hp} {a : Addr} {l : List D} {vs0 : List V} {G : DHp → Prop} (hl0 : vs0.length = l.length) (hq : ∀ ρ h H, Ext ρ0 H0 ρ H → HR K ρ h H → G h → ∃ vs, SqL K H a vs ∧ DVs K ρ H l vs) : ItAt K ρ0 H0 l.reverse G (Itv K a vs0.length) := by
  intro ρ h H i e hr g
  obtain ⟨vs, q, dvs⟩ := hq ρ h H e hr g
  have hl := dvs.length
  refine ⟨fun d hd => ?_, fun hle => ?_⟩
  · have hi : i < l.length := by have := (List.getElem?_eq_some_iff.mp hd).1; rwa [List.length_reverse] at this
    rw [List.getElem?_reverse hi] at hd
    obtain ⟨v, hv, dv⟩ := dvs.get hd
    refine ⟨⟨by omega, vs, v, q, by rw [hl0]; exact hv⟩, fun u H' y => ?_⟩
    obtain ⟨rfl, y⟩ := y
    have z := y vs q
    rw [hl0, hv] at z; cases z
    exact ⟨.refl, hr, dv⟩
  · rw [List.length_reverse] at hle
    show vs0.length ≤ i
    omega
theorem si_rev (hm : X.mg "reversed" = none) (ha : SA X W [e] ts) {tg : Expr} (hg : Gl X "reversed" := by rfl) (hs : starEach [e] X.env = [(false, eval e X.env)] := by rfl) : SI X W tg (.Call (.Name "reversed" p) [e] [] pos) (fun σ h X Q => ts σ h X fun ds h1 => ∃ d l, ds = [d] ∧ asL h1 d = some l ∧ Q l.reverse (gdL d l) h1) :=
  PI.imp (pi_reversed hg hm ha hs) fun σ H R w => by
    obtain ⟨ρ, σd, h, Xd, Qd, hr, sr, w, kx, k⟩ := w
    refine ⟨ρ, σd, h, Xd, _, hr, sr, w, kx, fun ρ1 ds h1 vs H1 e1 hr1 dvs q => ?_⟩
    obtain ⟨d, l, rfl, el, q⟩ := q
    obtain ⟨v, rfl, dv⟩ := dvs.un
    obtain ⟨a, ws, rfl, hq, dl⟩ := asL_at hr1 dv el
    refine ⟨a, ws, rfl, hq, k ρ1 _ _ h1 _ H1 e1 hr1 (it_rev dl.length fun ρ2 h2 H2 e2 hr2 g2 => ?_) q⟩
    obtain ⟨a', vs', e', hq', dvs'⟩ := asL_at hr2 (dv.ext e2) g2
    cases e'
    exact ⟨vs', hq', dvs'⟩
/-! ### xs[i] op= e -/
theorem get_list : PGet X (rIxL X.K) := by
  intro pins s σ H o i ov iv Q I r1 r2 h
  obtain ⟨p, xs, k, v, rfl, rfl, hq, hv, q⟩ := h
  cases r1
  obtain ⟨t, rfl⟩ := r2
  obtain ⟨its, r, pl, hz⟩ := I.list hq
  obtain ⟨j, hj, hx, _, hlo, hhi⟩ := atI_get hv
  obtain ⟨u, hu, ru⟩ := r.get hx
  have hl := r.length
  have hn := line63
  have fin : EP X pins σ Q u s := ⟨v, H, I, ru, q⟩
  by_cases h0 : 0 ≤ k
  · have hk : k.toNat = j := by
      rw [seqIndex_of h0 hhi] at hj
      exact Option.some.inj hj
    exact wpAny_getItem_list pl.isList h0 (by omega) (by rw [hk]; simpa using hu) fin
  · have hk : (k + (its.toArray.size : Int)).toNat = j := by
      rw [seqIndex_neg (by omega) hlo] at hj
      rw [List.size_toArray, ← hl]
      exact Option.some.inj hj
    exact wpAny_getItem_list_neg pl.isList (by omega) (by rw [List.size_toArray]; omega) (by omega) (by rw [hk]; simpa using hu) fin
def sAugS (op : D2) (dd di de : DE) : DS := fun E σ h => dd σ h (E.xx σ) fun x h1 => di σ h1 (E.xx σ) fun y h2 => ∃ j l k n c, x = .ref j ∧ y = .int k ∧ h2[j]? = some (.lst l) ∧ ixN l.length k = some n ∧ l[n]? = some c ∧ de σ h2 (E.xx σ) fun d h3 => op c d h3 fun z h4 => ∃ l', h4[j]? = some (.lst l') ∧ ixN l'.length k = some n ∧ E.nx σ (h4.set j (.lst (l'.set n z)))
end
end L2.MW

/-! MW, part R: tuple(reversed(a tuple)), at the library's level. -/
namespace L2.MW
open PySem PySem.Spec PyProof.Rows RT
theorem rt_nolen : typeLookup (.type "reversed") "__len__" = pure none := by
  rw [typeLookup_type, builtinLookup_eq_fast]
  kernel_rfl
theorem rt_hint : typeLookup (.type "reversed") "__length_hint__" = pure (some (.builtin "reversed.__length_hint__")) := by
  rw [typeLookup_type, builtinLookup_eq_fast]
  kernel_rfl
theorem rt_walk {P : Program} {w : World} {A : Around} (ah : A.handled = none) (z t : Addr) (ht0 : t ≠ z) (xs : Array Value) (hz : xs.size ≤ sizeLine) :
    Walks P w A z [z, t] [z] xs.size (fun j v => xs[xs.size - 1 - j]? = some v) (fun j g => j ≤ xs.size ∧ IsRt g z t ((xs.size : Int) - 1 - (j : Int)) ∧ IsTup g t xs) where
  sub := fun b hb => by
    have : b = z := by simpa using hb
    rw [this]; exact List.mem_cons_self
  frame := fun _ g g' q hk => ⟨q.1, q.2.1.at fun o e => hk z List.mem_cons_self o e, by
    obtain ⟨o, ho, r⟩ := q.2.2
    exact ⟨o, hk t (List.mem_cons_of_mem _ List.mem_cons_self) o ho, r⟩⟩
  item := fun j s Q E hj q hQ => by
    have e1 : (xs.size : Int) - 1 - (j : Int) = ((xs.size - 1 - j : Nat) : Int) := by omega
    have q1 := q.2.1
    rw [e1] at q1
    have hx : xs[xs.size - 1 - j]? = some (xs[xs.size - 1 - j]'(by omega)) := Array.getElem?_eq_getElem (by omega)
    refine next_rt_item q1 q.2.2 hx hz fun g' r' sb => ?_
    have e2 : ((xs.size - 1 - j : Nat) : Int) - 1 = (xs.size : Int) - 1 - ((j + 1 : Nat) : Int) := by omega
    rw [e2] at r'
    refine hQ _ g' (s.toks + 1) hx ⟨hj, r', ?_⟩ fun b o hb eo => sb.extBut b o (fun y => hb (by rw [y]; exact List.mem_cons_self)) eo
    obtain ⟨o, ho, r⟩ := q.2.2
    exact ⟨o, (sb.2 t ht0).trans ho, r⟩
  done := fun s Q E q hQ => by
    have e1 : (xs.size : Int) - 1 - (xs.size : Int) = -1 := by omega
    have q1 := q.2.1
    rw [e1] at q1
    exact next_rt_end ah q1 fun g' he => hQ g' s.toks fun b o hb eo => he b o (fun y => hb (by rw [y]; exact List.mem_cons_self)) eo
  self := fun _ _ _ _ q hQ => iter_rt q.2.1 hQ
section
variable {P : Program} {w : World} {A : Around} {E : Value → Shared → Prop} {s : Shared}
abbrev el : Obj := { cls := .type "list", data := .seq ([] : List Value).toArray }
theorem rt_slotH : Slot "reversed" "__length_hint__" "reversed.__length_hint__" :=
  .of (owner := "reversed") (n := "__length_hint__")
    (by rw [typeLookup_type, builtinLookup_eq_fast]; kernel_rfl)
    (by decide +kernel) (by decide +kernel) (by decide +kernel)
    (by first | exact .inl (by decide +kernel) | exact .inr (by decide +kernel))
    (by rw [isSubtype_type]; kernel_rfl)
theorem rt_entryH : entryFor table "reversed.__length_hint__" = some Builtin.«reversed.__length_hint__» := entryFor_of_tree (by kernel_rfl)
theorem rt_argsH (a : Value) : argsOk "reversed.__length_hint__" ⟨[a], []⟩ := by
  unfold argsOk
  rw [signature?_of (id := "reversed.__length_hint__") (n := "__length_hint__".toList.reverse) (o := "reversed".toList.reverse) (by kernel_rfl) owner_rt]
  kernel_rfl
/-- the hint -/
theorem rt_hintCall {z t : Addr} {xs : Array Value} {Q : Value → Shared → Prop} (hz : IsRt s.heap z t ((xs.size : Int) - 1)) (ht : IsTup s.heap t xs) (hn : xs.size ≤ sizeLine)
    (hQ : ∀ k, Q (.int xs.size k) { s with toks := k + 1 }) : wpAny (model P w) A (call (.builtin "reversed.__length_hint__") [.ref z]) Q E s := by
  obtain ⟨o, ho, hc, hd⟩ := id hz
  have l63 := line63
  refine wpAny_call_entry rt_slotH hz.typeIs rt_entryH ?_ (rt_argsH _)
  unfold Builtin.«reversed.__length_hint__»
  refine wpAny_bind (wpAny_of_eq (a := Value.ref z) rfl ?_)
  try dsimp only
  refine wpAny_bind (wpAny_field ho hd (x := .ref t) rfl ?_)
  try dsimp only
  rw [if_neg (Bool.eq_false_iff.mp (show (Value.ref t == Value.none) = false from rfl))]
  try dsimp only
  refine wpAny_bind (len_tuple ht (by omega) ?_)
  refine wpAny_bind (wpAny_of_eq (a := some ((xs.size : Nat) : Int)) rfl ?_)
  try dsimp only
  refine wpAny_bind (wpAny_field (s := { s with toks := s.toks + 1 + 1 }) ho hd (x := rawInt ((xs.size : Int) - 1)) rfl ?_)
  show wpAny _ _ (if (xs.size : Int) < (xs.size : Int) - 1 + 1 then _ else _) _ _ _
  rw [if_neg (by omega)]
  show wpAny _ _ (mkInt ((xs.size : Int) - 1 + 1) >>= fun v => ret v) _ _ _
  have e1 : (xs.size : Int) - 1 + 1 = xs.size := by omega
  rw [e1]
  refine wpAny_bind (wpAny_mkInt ?_)
  exact wpAny_pure ⟨_, rfl, hQ _⟩
/-- the loop of list.extend over it -/
theorem rt_loop {z t S : Addr} {xs : Array Value} {g : Heap} {k c0 : Nat} {Q : Value → Shared → Prop} (ah : A.handled = none) (hz : IsRt g z t ((xs.size : Int) - 1)) (ht : IsTup g t xs) (ht0 : t ≠ z) (hn : xs.size ≤ sizeLine) (n3 : S ∉ [z, t])
    (gS : g.get? S = some { cls := .type "list", data := .seq ([] : List Value).toArray c0 })
    (hQ : ∀ (g' : Heap) (k' : Nat) (acc : Array Value) (c : Nat), (∀ b o, b ≠ z → b ≠ S → g.get? b = some o → g'.get? b = some o) → g'.get? S = some { cls := .type "list", data := .seq acc c } → ItemsOf (fun j v => xs[xs.size - 1 - j]? = some v) acc xs.size → Q (.ref S) { s with heap := g', toks := k' }) :
    codeAny (model P w) A (.builtin "list.extend.loop" ⟨[.ref S, .ref z, .ref S], []⟩) (wants Q E) { s with heap := g, toks := k } := by
  have Wk := (rt_walk (P := P) (w := w) (A := A.in1) ah z t ht0 xs hn).toS
  have e0 : ((xs.size : Nat) : Int) - 1 - ((0 : Nat) : Int) = (xs.size : Int) - 1 := by omega
  refine codeAny_extend_loopS Wk hn S n3 (.ref S) xs.size 0 _ #[] c0 rfl (Nat.zero_le _) ⟨Nat.zero_le _, by rw [e0]; exact hz, ht⟩ gS (ItemsOf.nil _) fun s' acc' c' hm hS' hacc => ?_
  have hh := hm.heap
  rw [Moved.eq_with hm]
  exact hQ s'.heap s'.toks acc' c' (fun b o hb hb2 e => hh b o (fun y => by
    rcases List.mem_cons.mp y with y | y
    · exact hb2 y
    · exact hb (List.mem_singleton.mp y)) e) hS' hacc
theorem rt_collect {z t : Addr} {xs : Array Value} {Q : List Value → Shared → Prop} (ah : A.handled = none) (hz : IsRt s.heap z t ((xs.size : Int) - 1)) (ht : IsTup s.heap t xs) (ht0 : t ≠ z) (hn : xs.size ≤ sizeLine)
    (hQ : ∀ (g : Heap) (k : Nat) (acc : Array Value), (∀ b o, b ≠ z → s.heap.get? b = some o → g.get? b = some o) → ItemsOf (fun j v => xs[xs.size - 1 - j]? = some v) acc xs.size → Q acc.toList { s with heap := g, toks := k }) :
    wpAny (model P w) A (collect (.ref z)) Q E s := by
  obtain ⟨oz, hoz, _⟩ := id hz
  obtain ⟨ot, hot, _⟩ := id ht
  have n1 : s.heap.objs.size ≠ z := Nat.ne_of_gt (Heap.lt_size hoz)
  have n2 : s.heap.objs.size ≠ t := Nat.ne_of_gt (Heap.lt_size hot)
  have n3 : s.heap.objs.size ∉ [z, t] := by
    simp only [List.mem_cons, List.not_mem_nil, or_false, not_or]
    exact ⟨n1, n2⟩
  have l63 := line63
  unfold collect
  refine wpAny_bind (wpAny_runValue (codeAny_builtin F.entry_proto_collect ?_))
  rw [Around.under_plainId F.plain_proto_collect _]
  show wpAny _ A.in1 (newList [] >>= fun q => again (.builtin "list.__iadd__" ⟨[q, .ref z], []⟩)) _ _ s
  refine wpAny_bind (wpAny_newObj_type ?_)
  refine wpAny_pure ⟨plainId_quiet F.plain_list_iadd _, codeAny_builtin F.entry_list_iadd ?_⟩
  rw [Around.under_plainId F.plain_list_iadd _]
  have g0 : (s.heap.push el).get? s.heap.objs.size = some el := Heap.get?_push_size _ rfl
  have g1 : IsRt (s.heap.push el) z t ((xs.size : Int) - 1) := hz.at fun o e => Heap.get?_push_of_some _ e
  have g2 : IsTup (s.heap.push el) t xs := by
    obtain ⟨o, ho, r⟩ := ht
    exact ⟨o, Heap.get?_push_of_some _ ho, r⟩
  have gT : ({ s with heap := s.heap.push el } : Shared).TypeIs (.ref z) "reversed" := IsRt.typeIs (s := { s with heap := s.heap.push el }) g1
  have h1 : Builtin.List.listSameRef (.ref s.heap.objs.size) (.ref z) = false := by simp [Builtin.List.listSameRef, n1]
  show wpAny _ A.in1 (Builtin.List.listExtendWith (.ref s.heap.objs.size) (.ref z) (.ref s.heap.objs.size)) _ _ _
  unfold Builtin.List.listExtendWith
  refine wpAny_bind (wpAny_typeOf gT ?_)
  rw [if_neg (by rw [h1]; decide)]
  refine wpAny_bind (iter_rt (s := { s with heap := s.heap.push el }) g1 ?_)
  refine wpAny_bind (wpAny_holding ?_)
  unfold Builtin.List.listLengthHint
  refine wpAny_bind (wpAny_specialOf gT rt_nolen ?_)
  show wpAny _ A.in1 (specialOf (Value.ref z) (Str.ofString "__length_hint__") >>= _) _ _ _
  refine wpAny_bind (wpAny_specialOf gT rt_hint ?_)
  generalize hid : ("reversed.__length_hint__" : String) = id0
  wp_delta
  rw [show splitId id0 = some ("reversed", "__length_hint__") from by subst hid; decide +kernel]
  subst hid
  refine wpAny_bind (wpAny_isInstance (b := true) gT (by rw [isSubtype_type]; kernel_rfl) ?_)
  rw [if_neg (by decide)]
  try dsimp only
  rw [if_neg (Bool.eq_false_iff.mp (by kernel_rfl))]
  refine wpAny_bind (wpAny_rule ?_)
  rw [rt_slotH.bind]
  refine wpAny_bind (wpAny_pure ?_)
  refine wpAny_bind (wpAny_attempt ?_)
  refine rt_hintCall (s := { s with heap := s.heap.push el }) g1 g2 hn fun k => ?_
  show wpAny _ _ (asInt? (.int (xs.size : Int) k) >>= _) _ _ _
  refine wpAny_bind ?_
  have e3 : asInt? (.int (xs.size : Int) k) = pure (some (xs.size : Int)) := rfl
  rw [e3]
  refine wpAny_pure ?_
  try dsimp only
  have f1 : Builtin.List.listFitsIndex (xs.size : Int) = true := by
    unfold Builtin.List.listFitsIndex
    rw [Bool.and_eq_true, decide_eq_true_eq, decide_eq_true_eq]
    omega
  have f2 : Builtin.List.listTooLong (xs.size : Int).toNat = false := by
    unfold Builtin.List.listTooLong
    rw [decide_eq_false_iff_not]
    omega
  rw [if_neg (by rw [f1]; decide)]
  try dsimp only
  rw [if_neg (by omega)]
  try dsimp only
  rw [if_neg (by rw [f2]; decide)]
  refine wpAny_pure ?_
  have fin : ∀ (g : Heap) (k' c0 : Nat), IsRt g z t ((xs.size : Int) - 1) → IsTup g t xs → g.get? s.heap.objs.size = some { cls := .type "list", data := .seq ([] : List Value).toArray c0 } → (∀ b o, b ≠ s.heap.objs.size → s.heap.get? b = some o → g.get? b = some o) →
      codeAny (model P w) A (.builtin "list.extend.loop" ⟨[.ref s.heap.objs.size, .ref z, .ref s.heap.objs.size], []⟩) (wants (fun v s' => wpAny (model P w) A (match v with
        | .ref a => (do
          let o ← load a
          match o.data with
          | .seq xs _ => pure xs.toList
          | _ => unsupported "internal:collect")
        | _ => unsupported "internal:collect") Q E s') E) { s with heap := g, toks := k' } := by
    intro g k' c0 b1 b2 b3 b4
    refine rt_loop (s := s) ah b1 b2 ht0 hn n3 b3 fun g' k2 acc c b5 b6 b7 => ?_
    refine wpAny_bind (wpAny_load b6 ?_)
    refine wpAny_pure ?_
    refine hQ g' k2 acc (fun b o hb e => ?_) b7
    have hs : b ≠ s.heap.objs.size := fun y => absurd (Heap.lt_size e) (by rw [y]; exact Nat.lt_irrefl _)
    exact b5 b o hb hs (b4 b o hs e)
  split
  · refine wpAny_bind (wpAny_rule ?_)
    refine wpAny_bind ?_
    show wpAny _ A.in1 (updateSeq s.heap.objs.size (·.push .none) >>= fun _ => updateSeq s.heap.objs.size (·.pop)) _ _ _
    refine wpAny_bind (wpAny_updateSeq g0 rfl ?_ (Nat.zero_le _) (Nat.succ_le_succ (Nat.zero_le _)))
    have q2 := Heap.get?_update_self (Obj.mapSeq (·.push Value.none)) g0 rfl
    refine wpAny_updateSeq q2 rfl ?_ (show 1 ≤ sizeLine by decide) (Nat.zero_le _)
    have q3 := Heap.get?_update_self (Obj.mapSeq (·.pop)) q2 rfl
    have oth : ∀ b o, b ≠ s.heap.objs.size → (s.heap.push el).get? b = some o → (((s.heap.push el).update s.heap.objs.size (Obj.mapSeq (·.push Value.none))).update s.heap.objs.size (Obj.mapSeq (·.pop))).get? b = some o :=
      fun b o hb e => (Heap.get?_update_other _ _ (Ne.symm hb)).trans ((Heap.get?_update_other _ _ (Ne.symm hb)).trans e)
    refine wpAny_pure ⟨plainId_quiet F.plain_extend_loop _, ?_⟩
    refine fin _ _ _ (g1.at fun o e => oth z o (Ne.symm n1) e) ?_ q3 fun b o hb e => oth b o hb (Heap.get?_push_of_some _ e)
    obtain ⟨o, ho, r⟩ := g2
    exact ⟨o, oth t o (Ne.symm n2) ho, r⟩
  · refine wpAny_pure ⟨plainId_quiet F.plain_extend_loop _, ?_⟩
    exact fin _ _ _ g1 g2 g0 fun b o _ e => Heap.get?_push_of_some _ e
theorem rt_new {z t : Addr} {xs : Array Value} {Q₁ : Value → Shared → Prop} (ah : A.handled = none) (hz : IsRt s.heap z t ((xs.size : Int) - 1)) (ht : IsTup s.heap t xs) (ht0 : t ≠ z) (hn : xs.size ≤ sizeLine)
    (h : ∀ (g : Heap) (k : Nat) (acc : Array Value), (∀ b o, b ≠ z → s.heap.get? b = some o → g.get? b = some o) → ItemsOf (fun j v => xs[xs.size - 1 - j]? = some v) acc xs.size →
      Q₁ (.ref g.objs.size) { s with heap := g.push { cls := .type "tuple", data := .seq acc }, toks := k }) :
    codeAny (model P w) A (.call (.builtin "tuple.__new__") ⟨[.type "tuple", .ref z], []⟩) (wants Q₁ E) s := by
  refine codeAny_of_tree ?_
  show wpAny _ A.in1 (do checkBuiltinCall "tuple.__new__" ⟨[.type "tuple", .ref z], []⟩; again (.builtin "tuple.__new__" ⟨[.type "tuple", .ref z], []⟩)) _ _ s
  refine wpAny_bind (wpAny_of_eq (F.newCall_tuple_1 _) (wpAny_pure ⟨plainId_quiet F.plain_tuple_new _, codeAny_builtin F.entry_tuple_new ?_⟩))
  rw [Around.under_plainId F.plain_tuple_new _]
  have hsub := sub_tuple_self
  have hinit := init_tuple_lookup
  have hmh := madeHere_tuple
  have gT : s.TypeIs (.ref z) "reversed" := hz.typeIs
  have ah1 : A.in1.handled = none := ah
  wp_walk using wpAny_typeOf gT, rt_collect (A := A.in1) ah1 hz ht ht0 hn
  intro g k acc hk hacc
  show wpAny _ _ (Builtin.Tuple.tupleExact acc.toList.toArray >>= fun v => ret v) _ _ _
  unfold Builtin.Tuple.tupleExact
  refine wpAny_bind (wpAny_newObj_type ?_ (by show acc.toList.toArray.size ≤ sizeLine; simp only [Array.toArray_toList]; rw [hacc.1]; exact hn))
  refine wpAny_pure ?_
  have e : acc.toList.toArray = acc := by simp
  rw [e]
  exact h g k acc hk hacc
theorem rt_tuple {z t : Addr} {xs : Array Value} {Q : Value → Shared → Prop} (ah : A.handled = none) (hz : IsRt s.heap z t ((xs.size : Int) - 1)) (ht : IsTup s.heap t xs) (ht0 : t ≠ z) (hn : xs.size ≤ sizeLine)
    (hQ : ∀ (g : Heap) (k : Nat) (acc : Array Value), (∀ b o, b ≠ z → s.heap.get? b = some o → g.get? b = some o) → ItemsOf (fun j v => xs[xs.size - 1 - j]? = some v) acc xs.size →
      Q (.ref g.objs.size) { s with heap := g.push { cls := .type "tuple", data := .seq acc }, toks := k }) :
    wpAny (model P w) A (call (.type "tuple") [.ref z]) Q E s := by
  refine callType_codes (Q₁ := fun ob s₁ => s₁.TypeIs ob "tuple" ∧ Q ob s₁) F.called_tuple (F.typeCall_tuple_1 _) F.entry_object_init
    (rt_new (A := A.in1) ah hz ht ht0 hn fun g k acc hk hacc => ⟨⟨_, Heap.get?_push_size _ rfl, rfl⟩, hQ g k acc hk hacc⟩) fun ob s₁ q => ?_
  exact ⟨q.1, F.args_object_init_2 ob _, object_init_meets F.called_tuple.init.lookup F.called_tuple.made (by decide) P w A.in1 _ s₁ ⟨q.1, rfl, q.2⟩⟩
end
section
variable {X : Cx}
/-- tuple(reversed(t)), t a tuple -/
def tTupRevT (K : PySem.W.Frag) (te : TE) : TE := fun σ H Q => te σ H fun v H1 => ∃ (a : Addr) (xs : List V), v = .ref a ∧ SqT K H1 a xs ∧ ∀ q, H1 q = none → Q (.ref q) (upd H1 q (.tup xs.reverse))
theorem pe_tupRevT {e : Expr} {te : TE} {p p2 pos pos2 : Pos} (hc : X.calm = true) (hg : Gl X "tuple") (hm : X.mg "tuple" = none) (hg2 : Gl X "reversed") (hm2 : X.mg "reversed" = none) (he : PE X e te)
    (hs : starEach [e] X.env = (false, eval e X.env) :: starEach [] X.env := by rfl)
    (hs2 : starEach [.Call (.Name "reversed" p2) [e] [] pos2] X.env = (false, eval (.Call (.Name "reversed" p2) [e] [] pos2) X.env) :: starEach [] X.env := by rfl) :
    PE X (.Call (.Name "tuple" p) [.Call (.Name "reversed" p2) [e] [] pos2] [] pos) (tTupRevT X.K te) := by
  refine ⟨fun pins s σ H Q I h => ?_⟩
  have inner : ∀ u s1, EP X pins σ (fun v H1 => ∃ (a : Addr) (xs : List V), v = .ref a ∧ SqT X.K H1 a xs ∧ ∀ q, H1 q = none → Q (.ref q) (upd H1 q (.tup xs.reverse))) u s1 →
      wpAny (model X.prog X.w) X.A (call (.type "reversed") [u]) (fun r s2 => wpAny (model X.prog X.w) X.A (call (.type "tuple") [r]) (EP X pins σ Q) X.xe s2) X.xe s1 := by
    rintro u s1 ⟨v, H1, I1, r1, a, xs, rfl, hq, q⟩
    obtain rfl : u = Value.ref a := r1
    obtain ⟨its, rv, p', hz⟩ := I1.tuple hq
    have hn := line63
    have hl := rv.length
    have sz : its.toArray.size ≤ sizeLine := by rw [List.size_toArray, ← hl]; exact hz
    refine call_reversed_tup p' (fun A E Q k => len_tuple p' (by simp only [List.size_toArray] <;> omega) k) ?_
    have k0 : ∀ b o, s1.heap.get? b = some o → (s1.heap.push (rtObj a ((its.toArray.size : Int) - 1))).get? b = some o := fun b o e => Heap.get?_push_of_some _ e
    have I2 : Inv X pins σ H1 { s1 with heap := s1.heap.push (rtObj a ((its.toArray.size : Int) - 1)), toks := s1.toks + 1 + 1 } := I1.turned (t' := s1.toks + 1 + 1) (fun b o _ e => k0 b o e) (I1.fpOk (H' := H1) (b := s1.heap.objs.size) (Nat.le_refl _) (I1.hok.fresh (Nat.le_refl _))).1 (I1.fpOk (H' := H1) (b := s1.heap.objs.size) (Nat.le_refl _) (I1.hok.fresh (Nat.le_refl _))).2.1 (I1.fpOk (H' := H1) (b := s1.heap.objs.size) (Nat.le_refl _) (I1.hok.fresh (Nat.le_refl _))).2.2.2.1 (I1.fpOk (H' := H1) (b := s1.heap.objs.size) (Nat.le_refl _) (I1.hok.fresh (Nat.le_refl _))).2.2.2.2.1 (I1.fpOk (H' := H1) (b := s1.heap.objs.size) (Nat.le_refl _) (I1.hok.fresh (Nat.le_refl _))).2.2.2.2.2
    obtain ⟨f0, f1, f2, f3, f4, f5⟩ := I1.fpOk (H' := H1) (b := s1.heap.objs.size) (Nat.le_refl _) (I1.hok.fresh (Nat.le_refl _))
    obtain ⟨ol, hol, _⟩ := id p'
    have hne : a ≠ s1.heap.objs.size := Nat.ne_of_lt (Heap.lt_size hol)
    have pt : IsTup (s1.heap.push (rtObj a ((its.toArray.size : Int) - 1))) a its.toArray := by
      obtain ⟨o, ho, r⟩ := p'
      exact ⟨o, k0 _ _ ho, r⟩
    refine rt_tuple (s := { s1 with heap := s1.heap.push (rtObj a ((its.toArray.size : Int) - 1)), toks := s1.toks + 1 + 1 }) (I1.ok.hd hc) ⟨_, Heap.get?_push_size _ rfl, rfl, rfl⟩ pt hne sz fun g k acc hk hi => ?_
    have I3 : Inv X pins σ H1 { s1 with heap := g, toks := k } := I2.turned (t' := k) (fun b o hb e => hk b o hb e) f0 f1 f3 f4 f5
    refine ⟨.ref g.objs.size, upd H1 g.objs.size (.tup xs.reverse), I3.laid (t' := k) (fun c o e => Heap.get?_push_of_some _ e) (Nat.le_refl _) (show ObjOk X.prog X.w _ _ _ (.tup xs.reverse) from ⟨by rw [List.length_reverse]; exact hz, acc.toList, vals_rev rv hi, ?_⟩), rfl, q _ (I3.hok.fresh (Nat.le_refl _))⟩
    rw [Array.toArray_toList]
    exact IsTup.new _ _
  refine Call_ (ld_blt I hg hm boot_tuple (PyProof.Rows.callWith_type1 (args_cons (Call_ (ld_blt I hg2 hm2 PyProof.Rows.boot_reversed (PyProof.Rows.callWith_type1 (args_cons (thn (he.run pins s σ H _ I h) fun u s1 q => args_nil ?_) hs) hs rfl))) hs2) hs2 rfl))
  exact wpAny_mono (inner u s1 q) (fun r s2 z => args_nil z) fun _ _ z => z
variable {W : WX}
def dTupRev (da : DE) : DE := fun σ h X Q => da σ h X fun d h1 => ∃ l, d = .tup l ∧ Q (.tup l.reverse) h1
theorem se_tupRev {e : Expr} {de : DE} {p p2 pos pos2 : Pos} (hc : X.calm = true) (hm : X.mg "tuple" = none) (hm2 : X.mg "reversed" = none) (he : SE X W e de) (hg : Gl X "tuple" := by rfl) (hg2 : Gl X "reversed" := by rfl)
    (hs : starEach [e] X.env = (false, eval e X.env) :: starEach [] X.env := by rfl)
    (hs2 : starEach [.Call (.Name "reversed" p2) [e] [] pos2] X.env = (false, eval (.Call (.Name "reversed" p2) [e] [] pos2) X.env) :: starEach [] X.env := by rfl) :
    SE X W (.Call (.Name "tuple" p) [.Call (.Name "reversed" p2) [e] [] pos2] [] pos) (dTupRev de) := PE.imp (pe_tupRevT hc hg hm hg2 hm2 he hs hs2) fun σ H Q w => by
  obtain ⟨ρ, σd, h, Xd, Qd, hr, sr, w, kx, k⟩ := w
  refine ⟨ρ, σd, h, Xd, _, hr, sr, w, kx, fun ρ1 d h1 v H1 e1 hr1 dv q => ?_⟩
  obtain ⟨l, rfl, q⟩ := q
  obtain ⟨a, vs, rfl, ht, ds⟩ := dv
  exact ⟨a, vs, rfl, ht.sq, fun p np => k ρ1 _ h1 _ _ (e1.trans (.new1 np)) (hr1.new1 np) (.tupNew hr1 np ds.reverse) q⟩
end
end L2.MW

/-! MW, part I: xs[i] op= e, a, b = a list, enumerate, <= of tuples of ints, try that nothing leaves. -/
namespace L2.MW
open PySem PySem.Spec PyProof.Rows
section
variable {X : Cx} {W : WX} {pos p : Pos} {e a b : Expr} {da db de : DE}
theorem s1_augS {o i : Expr} {tpos : Pos} {dd di : DE} {ao : Operator} {tip : TIp} {op : D2} (L : L2ok X.K op tip) (hp : PIp X ao tip) (ho : SE X W o dd) (hi : SE X W i di) (he : SE X W e de)
    (ha : ∀ ov iv new, augStore i ov iv new = (do holding [new, ov, iv] (setItem ov iv new); release [new, ov, iv] []; pure .next) := by intros; rfl) : S1 X W (.AugAssign (.Subscript o i tpos) ao e pos) (sAugS op dd di de) := PS.imp (ps_augS ho hi get_list he hp set_list ha) fun Dn σ H w => by
  obtain ⟨ρ0, H0, ρ, σd, h, E, e0, hr, sr, w, k⟩ := w
  refine lE.go hr sr w (k.xw e0) fun ρ1 d1 h1 v1 H1 e1 hr1 sr1 kx1 dv1 w1 => lE.go hr1 sr1 w1 kx1 fun ρ2 d2 h2 v2 H2 e2 hr2 sr2 kx2 dv2 w2 => ?_
  obtain ⟨j, l, kk, n, c, rfl, rfl, hj, hn, hc, q⟩ := w2
  obtain ⟨a, vs, rfl, hja, hH, dvs⟩ := ref_lst hr2 (dv1.ext e2) hj
  have ev2 : v2 = .int kk := dv2
  subst ev2
  obtain ⟨cv, hcv, dcv⟩ := dvs.get hc
  have hat : atI vs kk = some cv := by
    unfold atI
    rw [dvs.length, hn]
    exact hcv
  refine ⟨a, vs, kk, cv, rfl, rfl, .of hH, hat, ?_⟩
  refine lE.go hr2 sr2 q kx2 fun ρ3 d3 h3 v3 H3 e3 hr3 sr3 kx3 dv3 w3 => ?_
  refine L ρ3 h3 H3 c d3 cv v3 _ _ hr3 (dcv.ext e3) dv3 w3 fun ρ4 z h4 v4 H4 e4 hr4 dv4 q4 => ?_
  obtain ⟨l', hj', hn', q4⟩ := q4
  have e24 : Ext ρ2 H2 ρ4 H4 := e3.trans e4
  have hja4 : ρ4[j]? = some a := e24.get hja
  obtain ⟨vs', hH', dvs'⟩ := hr4.at_ j _ a hj' hja4
  refine ⟨a, vs', kk, n, rfl, rfl, hH', by rw [dvs'.length]; exact hn', ?_⟩
  obtain ⟨a1, a2⟩ := write_lst hr4 hja4 (dvs'.set dv4 n)
  have ee := (((e0.trans e1).trans e2).trans e24).trans a2
  exact k.nx ρ4 _ _ _ _ ee a1 ((sr2.ext e24).ext a2) q4
theorem ip_xor0 : PIp X .BitXor (rI0 fun i j => .int (Builtin.bitXor i j)) := by
  intro pins s σ H x y v u Q I r1 r2 h
  exact iop_xor pins s σ H x y v u Q I r1 r2 h
theorem ip_sub0 : PIp X .Sub (rI0 fun i j => .int (i - j)) := by
  intro pins s σ H x y v u Q I r1 r2 h
  exact iop_sub pins s σ H x y v u Q I r1 r2 h
abbrev dIor : D2 := dI0 fun i j => .int (Builtin.bitOr i j)
abbrev dIxor : D2 := dI0 fun i j => .int (Builtin.bitXor i j)
abbrev dIadd : D2 := dI0 fun i j => .int (i + j)
theorem s1_augSor {o i : Expr} {tpos : Pos} {dd di : DE} (ho : SE X W o dd) (hi : SE X W i di) (he : SE X W e de)
    (ha : ∀ ov iv new, augStore i ov iv new = (do holding [new, ov, iv] (setItem ov iv new); release [new, ov, iv] []; pure .next) := by intros; rfl) : S1 X W (.AugAssign (.Subscript o i tpos) .BitOr e pos) (sAugS dIor dd di de) := s1_augS (L_I0 fun _ _ _ _ => rfl) ip_bor ho hi he ha
theorem s1_augSxor {o i : Expr} {tpos : Pos} {dd di : DE} (ho : SE X W o dd) (hi : SE X W i di) (he : SE X W e de)
    (ha : ∀ ov iv new, augStore i ov iv new = (do holding [new, ov, iv] (setItem ov iv new); release [new, ov, iv] []; pure .next) := by intros; rfl) : S1 X W (.AugAssign (.Subscript o i tpos) .BitXor e pos) (sAugS dIxor dd di de) := s1_augS (L_I0 fun _ _ _ _ => rfl) ip_xor0 ho hi he ha
theorem s1_augSadd {o i : Expr} {tpos : Pos} {dd di : DE} (ho : SE X W o dd) (hi : SE X W i di) (he : SE X W e de)
    (ha : ∀ ov iv new, augStore i ov iv new = (do holding [new, ov, iv] (setItem ov iv new); release [new, ov, iv] []; pure .next) := by intros; rfl) : S1 X W (.AugAssign (.Subscript o i tpos) .Add e pos) (sAugS dIadd dd di de) := s1_augS (L_I0 fun _ _ _ _ => rfl) ip_add0 ho hi he ha
/-- a, b, .. = a list of that length -/
def tgLst (n : Nat) (u : DGs) : DG := fun d σ h X Q => ∃ l, asL h d = some l ∧ l.length = n ∧ u l σ h X Q
theorem sg_lst {T : List Nat} {es : List Expr} {k n : Nat} {u : DGs} (hc : X.calm = true) (hu : SGs X W T es u) (hn : (assignEach es X.env).length = n := by rfl) (hst : (assignEach es X.env).findIdx? (·.1) = none := by rfl) :
    SG X W T (.Tuple es k pos) (tgLst n u) := PG.imp (pg_lst hc hu hn hst) fun v σ H Q w => by
  obtain ⟨ρ, σd, h, Xd, Qd, d, hr, sr, dv, ⟨l, el, hl, w⟩, kx, k⟩ := w
  obtain ⟨a, vs, rfl, hq, ds⟩ := asL_at hr dv el
  exact ⟨a, vs, rfl, hq, by rw [ds.length]; exact hl, ρ, σd, h, Xd, Qd, l, hr, sr, ds, w, k⟩
/-! ### enumerate(a list) -/
def enD (n : Nat) : List D → List D
  | [] => []
  | d :: ds => .tup [.int (n : Nat), d] :: enD (n + 1) ds
theorem enD_length : ∀ (n : Nat) (l : List D), (enD n l).length = l.length
  | _, [] => rfl
  | n, d :: ds => by rw [enD, List.length_cons, List.length_cons, enD_length]
theorem enD_get : ∀ (n : Nat) (l : List D) (i : Nat) (d : D), (enD n l)[i]? = some d → ∃ x, l[i]? = some x ∧ d = .tup [.int ((n + i : Nat) : Int), x]
  | _, [], _, _, h => by simp [enD] at h
  | n, x :: ds, 0, d, h => by
    simp [enD] at h
    exact ⟨x, rfl, h.symm⟩
  | n, x :: ds, i + 1, d, h => by
    obtain ⟨y, h1, h2⟩ := enD_get (n + 1) ds i d (by simpa [enD] using h)
    exact ⟨y, by simpa using h1, by rw [h2]; congr 3; omega⟩
theorem it_enum {K : PySem.W.Frag} {ρ0 : List Addr} {H0 : Hp} {a : Addr} {l : List D} {G : DHp → Prop} (hq : ∀ ρ h H, Ext ρ0 H0 ρ H → HR K ρ h H → G h → ∃ vs, SqL K H a vs ∧ DVs K ρ H l vs) : ItAt K ρ0 H0 (enD 0 l) G (Ite K a) := by
  intro ρ h H i e hr g
  obtain ⟨vs, q, dvs⟩ := hq ρ h H e hr g
  refine ⟨fun d hd => ?_, fun hl => ⟨vs, q, by rw [dvs.length]; rw [enD_length] at hl; exact hl⟩⟩
  obtain ⟨x, hx, rfl⟩ := enD_get 0 l i d hd
  obtain ⟨v, hv, dv⟩ := dvs.get hx
  refine ⟨⟨vs, v, q, hv⟩, fun u H' y => ?_⟩
  obtain ⟨T, x', rfl, np, rfl, y⟩ := y
  have z := y vs q
  rw [hv] at z; cases z
  refine ⟨.new1 np, hr.new1 np, .tupNew hr np ⟨_, _, by rw [Nat.zero_add], rfl, _, [], rfl, dv, rfl⟩⟩
theorem si_enum {ts : DA} {elts : List Expr} {kk : Nat} {tpos : Pos} (hm : X.mg "enumerate" = none) (ha : SA X W [e] ts) (hg : Gl X "enumerate" := by rfl) (hs : starEach [e] X.env = [(false, eval e X.env)] := by rfl) :
    SI X W (.Tuple elts kk tpos) (.Call (.Name "enumerate" p) [e] [] pos) (fun σ h X Q => ts σ h X fun ds h1 => ∃ d l, ds = [d] ∧ asL h1 d = some l ∧ Q (enD 0 l) (gdL d l) h1) :=
  PI.imp (pi_enum hg hm ha hs) fun σ H R w => by
    obtain ⟨ρ, σd, h, Xd, Qd, hr, sr, w, kx, k⟩ := w
    refine ⟨ρ, σd, h, Xd, _, hr, sr, w, kx, fun ρ1 ds h1 vs H1 e1 hr1 dvs q => ?_⟩
    obtain ⟨d, l, rfl, el, q⟩ := q
    obtain ⟨v, rfl, dv⟩ := dvs.un
    obtain ⟨a, ws, rfl, hq, dl⟩ := asL_at hr1 dv el
    refine ⟨a, ws, rfl, hq, k ρ1 _ _ h1 _ H1 e1 hr1 (it_enum fun ρ2 h2 H2 e2 hr2 g2 => ?_) q⟩
    obtain ⟨a', vs', e', hq', dvs'⟩ := asL_at hr2 (dv.ext e2) g2
    cases e'
    exact ⟨vs', hq', dvs'⟩
abbrev iEnumD (ts : DA) : DI := fun σ h X Q => ts σ h X fun ds h1 => ∃ d l, ds = [d] ∧ asL h1 d = some l ∧ Q (enD 0 l) (gdL d l) h1
abbrev iRevD (ts : DA) : DI := fun σ h X Q => ts σ h X fun ds h1 => ∃ d l, ds = [d] ∧ asL h1 d = some l ∧ Q l.reverse (gdL d l) h1
/-- <= of tuples of ints -/
def leNs (ns ms : List Int) : Bool := Ob.lexAt (fun j => decide (ns.getD j 0 = ms.getD j 0)) (fun j => decide (ns.getD j 0 ≤ ms.getD j 0)) (decide (ns.length ≤ ms.length)) 0 (min ns.length ms.length)
def dLeT : D2 := fun x y h Q => ∃ ns ms : List Int, x = .tup (ns.map D.int) ∧ y = .tup (ms.map D.int) ∧ Q (.bl (leNs ns ms)) h
theorem L_leT {K : PySem.W.Frag} : L2ok K dLeT (rLeT K) := by
  intro ρ h H x y vx vy Qd Q hr dx dy w k
  obtain ⟨ns, ms, rfl, rfl, q⟩ := w
  obtain ⟨a, vs, rfl, h1, d1⟩ := dx
  obtain ⟨b, us, rfl, h2, d2⟩ := dy
  have e1 := d1.ints
  have e2 := d2.ints
  subst e1 e2
  exact ⟨a, b, ns, ms, rfl, rfl, h1.sq, h2.sq, k ρ (.bl (leNs ns ms)) h _ H .refl hr rfl q⟩
theorem se_leT (hu : X.A.units < cLine) (ha : SE X W a da) (hb : SE X W b db) (hm : behindInMarks .LtE b = false := by first | exact nomark _ | rfl) : SE X W (.Compare a [.LtE] [b] pos) (dOp dLeT da db) := se_cmp (op_leT hu) L_leT ha hb hm
theorem st_leT (hu : X.A.units < cLine) (ha : SE X W a da) (hb : SE X W b db) (hm : behindInMarks .LtE b = false := by first | exact nomark _ | rfl) : ST X W (.Compare a [.LtE] [b] pos) (dTst (dOp dLeT da db)) := st_cmp (op_leT hu) L_leT ha hb hm
/-! ### try: nothing leaves the body -/
def sNox (t : DS) : DS := fun E σ h => t { E with ex := fun _ _ _ => False } σ h
theorem s1_try0 {body : List Stmt} {h₀ : ExceptHandler} {hs : List ExceptHandler} {t : DS} (hb : SS X.nox W0 body t) : S1 X W (.Try body (h₀ :: hs) [] [] pos) (sNox t) := PS.imp (ps_try_thru0 hb) fun Dn σ H w => by
  obtain ⟨ρ0, H0, ρ, σd, h, E, e0, hr, sr, w, k⟩ := w
  exact ⟨ρ0, H0, ρ, σd, h, _, e0, hr, sr, w, ⟨k.n0, k.nx, k.bk, k.ct, k.rt, fun _ _ _ _ _ _ _ _ _ _ _ _ z => z.elim⟩⟩
end
end L2.MW

/-! MW, part J: short names for the printed derivations. -/
namespace L2.MW
open PySem PySem.Spec PyProof.Rows
abbrev oSub : D2 := dI0 fun i j => .int (i - j)
abbrev oDiv : D2 := dII CDiv fun i j => .int (i / j)
abbrev oMod : D2 := dII (fun _ j => 0 < j) fun i j => .int (i % j)
abbrev oPow : D2 := dII CPow fun i j => .int (i ^ j.toNat)
abbrev oShl : D2 := dII CPow fun i j => .int (i * 2 ^ j.toNat)
abbrev oShr : D2 := dII (fun _ j => 0 ≤ j) fun i j => .int (i / 2 ^ j.toNat)
abbrev oAnd : D2 := dI0 fun i j => .int (Builtin.bitAnd i j)
abbrev oOr : D2 := dI0 fun i j => .int (Builtin.bitOr i j)
abbrev oXor : D2 := dI0 fun i j => .int (Builtin.bitXor i j)
abbrev oLt : D2 := dCI fun i j => decide (i < j)
abbrev oLe : D2 := dCI fun i j => decide (i ≤ j)
abbrev oGt : D2 := dCI fun i j => decide (j < i)
abbrev oGe : D2 := dCI fun i j => decide (j ≤ i)
abbrev nMax2 : DN := nI2 fun i j => if j > i then j else i
abbrev nMin2 : DN := nI2 fun i j => if j < i then j else i
theorem uu {k : Nat} {A : Around} (r : Room k A) : A.units + 64 < cLine := by have := r.un; omega
theorem uu1 {k : Nat} {A : Around} (r : Room k A) : A.units + 65 < cLine := by have := r.un; omega
theorem uu0 {k : Nat} {A : Around} (r : Room k A) : A.units < cLine := by have := r.un; omega
theorem takes00 {X : Cx} : Takes X W0 := fun u s' ⟨_, _, _, _, _, _, _, _, _, _, _, _, _, _, _, _, w⟩ => w.elim
end L2.MW

/-! MW, part L: how readings are shown: loops by an invariant, comprehensions as maps, the changing heap. -/
namespace L2.MW
open PySem PySem.Spec PyProof.Rows

/-! ### loops -/
theorem forW_inv {tb : DS} {g : DG} {G : DHp → Prop} {E : DEnds} (items : List D) (I : Nat → DSt → DHp → Prop) {σ : DSt} {h : DHp} (h0 : I 0 σ h) (hG : ∀ i σ h, i ≤ items.length → I i σ h → G h)
    (step : ∀ i x σ h (N : DSt → DHp → Prop), items[i]? = some x → I i σ h → (∀ σ' h', I (i + 1) σ' h' → N σ' h') → g x σ h (E.xx σ) fun σ' h' => tb { E with nx := N, ct := N, bk := E.nx } σ' h')
    (fin : ∀ σ h, I items.length σ h → E.nx σ h) : forW tb g G E items σ h := by
  have gen : ∀ (r : List D) (k : Nat), items.drop k = r → k ≤ items.length → ∀ σ h, I k σ h → forW tb g G E r σ h := by
    intro r
    induction r with
    | nil =>
      intro k e hk σ h i
      have hl : k = items.length := by
        have := congrArg List.length e
        rw [List.length_drop, List.length_nil] at this
        omega
      subst hl
      exact ⟨hG _ _ _ hk i, fin σ h i⟩
    | cons x xs ih =>
      intro k e hk σ h i
      have hx : items[k]? = some x := by
        have := congrArg (fun l => l[0]?) e
        rw [List.getElem?_drop] at this
        simpa using this
      have hlt : k < items.length := (List.getElem?_eq_some_iff.mp hx).1
      have hd : items.drop (k + 1) = xs := by
        have := congrArg List.tail e
        rw [List.tail_drop] at this
        simpa using this
      exact ⟨hG _ _ _ hk i, step k x σ h _ hx i fun σ' h' i' => ih (k + 1) hd hlt σ' h' i'⟩
  exact gen items 0 rfl (Nat.zero_le _) σ h h0
/-! ### comprehensions -/
theorem at_end {h : DHp} {b : HB} : (h ++ [b])[h.length]? = some b := by rw [List.getElem?_append_right (Nat.le_refl _), Nat.sub_self]; rfl
theorem set_end {h : DHp} {b c : HB} : (h ++ [b]).set h.length c = h ++ [c] := by rw [List.set_append_right _ _ (Nat.le_refl _), Nat.sub_self]; rfl
theorem at_k {h l : DHp} {k : Nat} : (h ++ l)[h.length + k]? = l[k]? := by rw [List.getElem?_append_right (Nat.le_add_right _ _), Nat.add_sub_cancel_left]
theorem at_0 {h l : DHp} : (h ++ l)[h.length]? = l[0]? := by rw [List.getElem?_append_right (Nat.le_refl _), Nat.sub_self]
theorem set_k {h l : DHp} {k : Nat} {c : HB} : (h ++ l).set (h.length + k) c = h ++ l.set k c := by rw [List.set_append_right _ _ (Nat.le_add_right _ _), Nat.add_sub_cancel_left]
theorem set_0 {h l : DHp} {c : HB} : (h ++ l).set h.length c = h ++ l.set 0 c := by rw [List.set_append_right _ _ (Nat.le_refl _), Nat.sub_self]
def lcF (f : D → D) (p : D → Bool) (items : List D) : List D := (items.filter p).map f
/-- each item: p tells if it is taken, f what is made of it -/
theorem lc_map {g : DG} {tt : DT} {te : DE} {G : DHp → Prop} {h1 : DHp} {σ : DSt} {Q : DHp → Prop} (f : D → D) (p : D → Bool) (items : List D) (hG : ∀ acc, G (h1 ++ [.lst acc])) (hl : items.length ≤ sizeLine)
    (hx : ∀ x ∈ items, ∀ (acc : List D) (R : DHp → Prop), acc.length < sizeLine → (p x = true → R (h1 ++ [.lst (acc ++ [f x])])) → (p x = false → R (h1 ++ [.lst acc])) →
      g x σ (h1 ++ [.lst acc]) X0 fun σ2 h2 => tt σ2 h2 X0 fun b h3 => (b = true → te σ2 h3 X0 fun y h4 => ∃ acc, h4[h1.length]? = some (.lst acc) ∧ acc.length < sizeLine ∧ R (h4.set h1.length (.lst (acc ++ [y])))) ∧ (b = false → R h3))
    (q : Q (h1 ++ [.lst (lcF f p items)])) : lcH g tt te G h1.length σ items (h1 ++ [.lst []]) Q := by
  have gen : ∀ (r done : List D), items = done ++ r → lcH g tt te G h1.length σ r (h1 ++ [.lst (lcF f p done)]) Q := by
    intro r
    induction r with
    | nil =>
      intro done e
      rw [List.append_nil] at e
      subst e
      exact ⟨hG _, q⟩
    | cons x xs ih =>
      intro done e
      have hlen : (lcF f p done).length < sizeLine := by
        have l1 : (lcF f p done).length ≤ done.length := by unfold lcF; rw [List.length_map]; exact List.length_filter_le _ _
        have l2 : done.length < items.length := by rw [e, List.length_append, List.length_cons]; omega
        omega
      refine ⟨hG _, hx x (by rw [e]; simp) _ (fun hh => lcH g tt te G h1.length σ xs hh Q) hlen (fun hp => ?_) fun hp => ?_⟩
      · have := ih (done ++ [x]) (by rw [e]; simp)
        have e2 : lcF f p (done ++ [x]) = lcF f p done ++ [f x] := by unfold lcF; rw [List.filter_append, List.map_append]; simp [List.filter_cons, hp]
        rw [e2] at this
        exact this
      · have := ih (done ++ [x]) (by rw [e]; simp)
        have e2 : lcF f p (done ++ [x]) = lcF f p done := by unfold lcF; rw [List.filter_append, List.map_append]; simp [List.filter_cons, hp]
        rw [e2] at this
        exact this
  exact gen items [] rfl
/-! ### what may stand anywhere: data without places -/
theorem Bds_all {m : Nat} : ∀ {l : List D}, (∀ x ∈ l, Bd m x) → Bds m l
  | [], _ => trivial
  | d :: ds, h => ⟨h d List.mem_cons_self, Bds_all fun x hx => h x (List.mem_cons_of_mem _ hx)⟩
theorem Bd.of_pl : ∀ (n : Nat) (d : D), OkD n d → ∀ m, Bd m d := by
  intro n
  induction n with
  | zero => intro d h m; cases d <;> first | trivial | exact False.elim h
  | succ n ih =>
    intro d h m
    cases d with
    | tup l => exact Bds_all fun x hx => ih x (h x hx) m
    | lst l => exact Bds_all fun x hx => ih x (h x hx) m
    | fz l => exact Bds_all fun x hx => ih x (h x hx) m
    | _ => first | trivial | exact False.elim h
theorem Bds.of_pl (n : Nat) (l : List D) (h : ∀ x ∈ l, OkD n x) (m : Nat) : Bds m l := Bds_all fun x hx => Bd.of_pl n x (h x hx) m
theorem OkD.ints {n : Nat} {l : List Int} : ∀ x ∈ l.map D.int, OkD n x := fun x hx => by
  obtain ⟨i, _, rfl⟩ := List.mem_map.mp hx
  cases n <;> trivial
theorem Bds.ints {m : Nat} {l : List Int} : Bds m (l.map D.int) := Bds.of_pl 0 _ OkD.ints m
/-! ### bits -/
theorem bOr (a b : Nat) : Builtin.bitOr (a : Int) (b : Int) = ((a ||| b : Nat) : Int) := by
  rw [bitOr_nn (by omega) (by omega)]; simp
theorem bAnd (a b : Nat) : Builtin.bitAnd (a : Int) (b : Int) = ((a &&& b : Nat) : Int) := by
  rw [bitAnd_pp (by omega) (by omega)]; simp
theorem bXor (a b : Nat) : Builtin.bitXor (a : Int) (b : Int) = ((a ^^^ b : Nat) : Int) := by
  rw [Bits.bitXor_pp (by omega) (by omega)]; simp
theorem bShl (j : Nat) : (1 : Int) * 2 ^ j = ((2 ^ j : Nat) : Int) := by push_cast; omega
theorem bShr (a j : Nat) : (a : Int) / 2 ^ j = ((a >>> j : Nat) : Int) := by
  rw [Nat.shiftRight_eq_div_pow]; push_cast; rfl
theorem bBit (a j : Nat) : Builtin.bitAnd ((a : Int) / 2 ^ j) 1 = if a.testBit j then 1 else 0 := by
  rw [bShr, show (1 : Int) = ((1 : Nat) : Int) from rfl, bAnd]
  have e : (a >>> j) &&& 1 = (a.testBit j).toNat := by
    rw [Nat.and_one_is_mod, Nat.testBit_eq_decide_div_mod_eq, Nat.shiftRight_eq_div_pow]
    have : a / 2 ^ j % 2 < 2 := Nat.mod_lt _ (by decide)
    by_cases q : a / 2 ^ j % 2 = 1 <;> simp [q] <;> omega
  rw [e]
  cases a.testBit j <;> rfl
end L2.MW

/-! MW, part M: the operations at known values. -/
namespace L2.MW
open PySem PySem.Spec PyProof.Rows
section
variable {h : DHp} {Q : DK} {l m : List D} {i j : Int} {d x y : D}
theorem tru_bl {b : Bool} : truD h (.bl b) = some b := rfl
theorem tru_int : truD h (.int i) = some (i != 0) := rfl
theorem asL_lst : asL h (.lst l) = some l := rfl
theorem asL_fz : asL h (.fz l) = some l := rfl
theorem asL_ref {k : Nat} (e : h[k]? = some (.lst l)) : asL h (.ref k) = some l := by
  show (match h[k]? with | some (.lst l) => some l | _ => none) = some l
  rw [e]
theorem asX_lst : asX h (.lst l) = some l := rfl
theorem asX_ref {k : Nat} (e : h[k]? = some (.lst l)) : asX h (.ref k) = some l := by
  show (match h[k]? with | some (.lst l) => some l | _ => none) = some l
  rw [e]
theorem asS_tup : asS h (.tup l) = some l := rfl
theorem asS_lst : asS h (.lst l) = some l := rfl
theorem asS_fz : asS h (.fz l) = some l := rfl
theorem asS_ref {k : Nat} (e : h[k]? = some (.lst l)) : asS h (.ref k) = some l := asL_ref e
theorem ix_of (e : asS h x = some l) (e2 : atI l i = some d) (q : Q d h) : dIx x (.int i) h Q := ⟨i, rfl, .inl ⟨l, d, e, e2, q⟩⟩
theorem ix_eq (e : asS h x = some l) (e2 : atI l i = some d) : dIx x (.int i) h Q ↔ Q d h := by
  constructor
  · rintro ⟨i', e', w⟩
    cases e'
    rcases w with ⟨l', d', e3, e4, q⟩ | ⟨z, c, rfl, _, _, _⟩
    · rw [e] at e3; cases e3
      rw [e2] at e4; cases e4
      exact q
    · cases e
  · exact ix_of e e2
theorem ix_tup (e2 : atI l i = some d) : dIx (.tup l) (.int i) h Q ↔ Q d h := ix_eq rfl e2
theorem ix_lst (e2 : atI l i = some d) : dIx (.lst l) (.int i) h Q ↔ Q d h := ix_eq rfl e2
theorem ix_fz (e2 : atI l i = some d) : dIx (.fz l) (.int i) h Q ↔ Q d h := ix_eq rfl e2
theorem ix_ref {k : Nat} (e : h[k]? = some (.lst l)) (e2 : atI l i = some d) : dIx (.ref k) (.int i) h Q ↔ Q d h := ix_eq (asS_ref e) e2
theorem ixN_nat {n k : Nat} (hk : k < n) : ixN n (k : Int) = some k := by unfold ixN; rw [if_pos (by omega), if_pos (by omega)]; simp
theorem atI_nat {α : Type} {l : List α} {k : Nat} {a : α} (e : l[k]? = some a) : atI l (k : Int) = some a := by
  unfold atI
  rw [ixN_nat (List.getElem?_eq_some_iff.mp e).1]
  exact e
theorem atI_0 {α : Type} {a : α} {r : List α} : atI (a :: r) 0 = some a := atI_nat (k := 0) rfl
theorem atI_1 {α : Type} {a b : α} {r : List α} : atI (a :: b :: r) 1 = some b := atI_nat (k := 1) rfl
theorem atI_2 {α : Type} {a b c : α} {r : List α} : atI (a :: b :: c :: r) 2 = some c := atI_nat (k := 2) rfl
theorem len_of (e : asS h x = some l) (q : Q (.int l.length) h) : nLen [x] h Q := ⟨x, rfl, .inl ⟨l, e, q⟩⟩
theorem len_eq (e : asS h x = some l) : nLen [x] h Q ↔ Q (.int l.length) h := by
  constructor
  · rintro ⟨x', e', w⟩
    cases e'
    rcases w with ⟨l', e3, q⟩ | ⟨z, rfl, _, _⟩
    · rw [e] at e3; cases e3; exact q
    · cases e
  · exact len_of e
theorem len_tup : nLen [.tup l] h Q ↔ Q (.int l.length) h := len_eq rfl
theorem len_lst : nLen [.lst l] h Q ↔ Q (.int l.length) h := len_eq rfl
theorem len_fz : nLen [.fz l] h Q ↔ Q (.int l.length) h := len_eq rfl
theorem ne_int : dNe (.int i) (.int j) h Q ↔ Q (.bl (!(i == j))) h := ⟨fun w => w.2.2, fun q => ⟨trivial, trivial, q⟩⟩
theorem eq_int : dEq (.int i) (.int j) h Q ↔ Q (.bl (i == j)) h := ⟨fun w => w.2.2, fun q => ⟨trivial, trivial, q⟩⟩
theorem ne_bl {a b : Bool} : dNe (.bl a) (.bl b) h Q ↔ Q (.bl (!(a == b))) h := by
  have e : deq (.bl a) (.bl b) = (a == b) := by cases a <;> cases b <;> rfl
  unfold dNe
  show _ ∧ _ ∧ Q (.bl (!deq (.bl a) (.bl b))) h ↔ _
  rw [e]
  exact ⟨fun w => w.2.2, fun q => ⟨trivial, trivial, q⟩⟩
theorem eq_bl {a b : Bool} : dEq (.bl a) (.bl b) h Q ↔ Q (.bl (a == b)) h := by
  have e : deq (.bl a) (.bl b) = (a == b) := by cases a <;> cases b <;> rfl
  unfold dEq
  show _ ∧ _ ∧ Q (.bl (deq (.bl a) (.bl b))) h ↔ _
  rw [e]
  exact ⟨fun w => w.2.2, fun q => ⟨trivial, trivial, q⟩⟩
theorem add_int : dAdd (.int i) y h Q ↔ ∃ j, y = .int j ∧ Q (.int (i + j)) h := Iff.rfl
theorem add_tup : dAdd (.tup l) (.tup m) h Q ↔ l.length + m.length ≤ sizeLine ∧ Q (.tup (l ++ m)) h := by
  constructor
  · rintro ⟨b, e, q⟩; cases e; exact q
  · intro q; exact ⟨m, rfl, q⟩
theorem mul_int : dMul (.int i) (.int j) h Q ↔ CMul i j ∧ Q (.int (i * j)) h := by
  constructor
  · rintro ⟨b, e, q⟩; cases e; exact q
  · intro q; exact ⟨j, rfl, q⟩
end
theorem int_int {h : DHp} {Q : DK} {i : Int} : nInt [.int i] h Q ↔ Q (.int i) h := by
  constructor
  · rintro (⟨j, e, q⟩ | ⟨b, e, q⟩)
    · cases e; exact q
    · cases e
  · intro q; exact .inl ⟨i, rfl, q⟩
theorem int_bl {h : DHp} {Q : DK} {b : Bool} : nInt [.bl b] h Q ↔ Q (.int (b2D b)) h := by
  constructor
  · rintro (⟨j, e, q⟩ | ⟨b', e, q⟩)
    · cases e
    · cases e; exact q
  · intro q; exact .inr ⟨b, rfl, q⟩
theorem ty_end {h : DHp} {l : List D} : tyM "list" (h ++ [.lst l]) (.ref h.length) ↔ True := ⟨fun _ => trivial, fun _ => .inl ⟨rfl, l, asL_ref at_end⟩⟩
theorem tgs_cons_eq {t : DG} {u : DGs} {d : D} {r : List D} {σ : DSt} {h : DHp} {X : DX} {Q : DSt → DHp → Prop} : tgsCons t u (d :: r) σ h X Q ↔ t d σ h (fun _ _ => False) (fun σ' h' => u r σ' h' X Q) := by
  constructor
  · rintro ⟨d', r', e, q⟩; cases e; exact q
  · intro q; exact ⟨d, r, rfl, q⟩
theorem tgs_nil_eq {σ : DSt} {h : DHp} {X : DX} {Q : DSt → DHp → Prop} : tgsNil [] σ h X Q ↔ Q σ h := ⟨fun w => w.2, fun q => ⟨rfl, q⟩⟩
theorem tg_tup_eq {n : Nat} {u : DGs} {l : List D} {σ : DSt} {h : DHp} {X : DX} {Q : DSt → DHp → Prop} : tgTup n u (.tup l) σ h X Q ↔ l.length = n ∧ u l σ h X Q := by
  constructor
  · rintro ⟨d', e, q⟩; cases e; exact q
  · intro q; exact ⟨l, rfl, q⟩
theorem tg_lst_eq {n : Nat} {u : DGs} {l : List D} {σ : DSt} {h : DHp} {X : DX} {Q : DSt → DHp → Prop} : tgLst n u (.lst l) σ h X Q ↔ l.length = n ∧ u l σ h X Q := by
  constructor
  · rintro ⟨d', e, q⟩; cases e; exact q
  · intro q; exact ⟨l, rfl, q⟩
theorem asS_end {h : DHp} {l : List D} : asS (h ++ [.lst l]) (.ref h.length) = some l := asS_ref at_end
theorem asL_end {h : DHp} {l : List D} : asL (h ++ [.lst l]) (.ref h.length) = some l := asL_ref at_end
theorem at_pre {h : DHp} {b c : HB} : (h ++ [b] ++ [c])[h.length]? = some b := by
  rw [List.append_assoc, List.getElem?_append_right (Nat.le_refl _), Nat.sub_self]; rfl
theorem set_pre {h : DHp} {b c d : HB} : (h ++ [b] ++ [c]).set h.length d = h ++ [d] ++ [c] := by
  rw [List.append_assoc, List.set_append_right _ _ (Nat.le_refl _), Nat.sub_self, List.append_assoc]; rfl
theorem ty_pre {h : DHp} {l : List D} {c : HB} : tyM "list" (h ++ [.lst l] ++ [c]) (.ref h.length) ↔ True := ⟨fun _ => trivial, fun _ => .inl ⟨rfl, l, asL_ref at_pre⟩⟩
theorem rt_frzG {h hh g : DHp} {X : DX} {Q : DK} {i : Nat} {l : List D} (e : hh = h ++ g) (hi : h.length ≤ i) (el : hh[i]? = some (.lst l)) (b : Bds h.length l) (q : Q (.lst l) h) : (endsD h X Q).rt (.ref i) hh := by
  subst e
  exact rt_frz hi el b q
/-! ### what is walked -/
theorem rg_get {n i : Nat} {x : D} (h : (rgD 0 n)[i]? = some x) : x = .int (i : Int) ∧ i < n := by
  unfold rgD at h
  rw [List.getElem?_map] at h
  have hi : i < n := by
    by_cases hi : i < n
    · exact hi
    · rw [List.getElem?_eq_none (by rw [List.length_range]; omega)] at h; cases h
  rw [List.getElem?_range hi] at h
  simp at h
  exact ⟨h.symm, hi⟩
theorem rg_len {lo : Int} {n : Nat} : (rgD lo n).length = n := by unfold rgD; rw [List.length_map, List.length_range]
theorem rg_mem {n : Nat} {x : D} (h : x ∈ rgD 0 n) : ∃ i, i < n ∧ x = .int (i : Int) := by
  obtain ⟨i, hi, rfl⟩ := List.getElem_of_mem h
  obtain ⟨e, hn⟩ := rg_get (List.getElem?_eq_getElem hi)
  exact ⟨i, hn, e⟩
theorem get_map {α : Type} {f : α → D} {l : List α} {i : Nat} {x : D} (h : (l.map f)[i]? = some x) : ∃ a, l[i]? = some a ∧ x = f a ∧ l.take (i + 1) = l.take i ++ [a] ∧ l.drop i = a :: l.drop (i + 1) ∧ a ∈ l := by
  rw [List.getElem?_map] at h
  cases q : l[i]? with
  | none => rw [q] at h; cases h
  | some a =>
    rw [q] at h
    have hl : i < l.length := (List.getElem?_eq_some_iff.mp q).1
    have ea : l[i] = a := (List.getElem?_eq_some_iff.mp q).2
    refine ⟨a, rfl, (Option.some.inj h).symm, ?_, ?_, List.mem_of_getElem? q⟩
    · rw [List.take_succ_eq_append_getElem hl, ea]
    · rw [List.drop_eq_getElem_cons hl, ea]
theorem drop_get {l : List D} {i : Nat} {x : D} (h : l[i]? = some x) : l.take (i + 1) = l.take i ++ [x] ∧ l.drop i = x :: l.drop (i + 1) ∧ x ∈ l := by
  have hl : i < l.length := (List.getElem?_eq_some_iff.mp h).1
  have ea : l[i] = x := (List.getElem?_eq_some_iff.mp h).2
  exact ⟨by rw [List.take_succ_eq_append_getElem hl, ea], by rw [List.drop_eq_getElem_cons hl, ea], List.mem_of_getElem? h⟩
theorem rgOk {n : Nat} (h : n < 4000000) : RgD 0 (n : Int) := ⟨by decide, by decide, by omega, by omega⟩
theorem small {n : Nat} (h : n ≤ 4000000) : n ≤ sizeLine := Nat.le_trans h (by decide)
theorem smallL {n : Nat} (h : n < 4000000) : n < sizeLine := Nat.lt_of_lt_of_le h (by decide)
theorem rt_of {h0 h : DHp} {X : DX} {Q : DK} {d : D} (q : Q d h) : (endsD h0 X Q).rt d h := rt_keep q
theorem rt_lst {h : DHp} {X : DX} {Q : DK} {l : List D} {g : DHp} (b : Bds h.length l) (q : Q (.lst l) h) : (endsD h X Q).rt (.ref h.length) (h ++ .lst l :: g) := rt_frz0 b q
theorem rt_back {h : DHp} {X : DX} {Q : DK} {d : D} {g : DHp} (b : Bd h.length d) (q : Q d h) : (endsD h X Q).rt d (h ++ g) := rt_cut b q
theorem cut_mem {l : List D} {lo hi : Option Int} {x : D} (h : x ∈ cutD l lo hi) : x ∈ l := List.mem_of_mem_drop (List.mem_of_mem_take h)
theorem cut_len {l : List D} {lo hi : Option Int} : (cutD l lo hi).length ≤ l.length := by
  unfold cutD
  rw [List.length_take, List.length_drop]
  omega
end L2.MW

/-! MW, part N: the ends: keywords at a def, the law's call. -/
namespace L2.MW
open PySem PySem.Spec PyProof.Rows
/-- a promise that lets nothing out, in the plain context -/
theorem cx0 {P : Program} {w : World} {K : PySem.W.Frag} {mg : Str → Option Value} {base : Heap} {k : Nat} {f : Addr} {fd : FuncData} {ps : List Str} {sp : Sp} (F : FnOk P w K mg base (L2.CX P w) k f fd ps sp) :
    FnOk P w K mg base CX0 k f fd ps (fun vs H Q _ => sp vs H Q fun _ _ _ => False) := by
  refine ⟨fun vs H Q E h => F.len vs H Q _ h, fun A outer s H args us vs Q E hr he hb hv h => codeAny_mono (F.run A outer s H args us vs Q _ hr he hb hv h) fun r s' q => ?_⟩
  cases r with
  | error e => obtain ⟨_, _, _, _, _, _, _, _, _, _, _, _, z⟩ := q; exact z.elim
  | ok fl => cases fl <;> exact q
/-- keywords alone -/
theorem bindsK {K : PySem.W.Frag} {x qual : Str} {params : Arguments} {body : List Stmt} {scope : Scope} {kws : List (Str × V)} {f : Addr} {fd : FuncData} (F : FunD K x qual params body scope [] kws f fd) (s : Shared) {args : Args} {bs : List (Str × Value)}
    (h : ∀ (kV doc pm : Value) (an : Option Addr) (cdv ct : Value), bindArgs (PySem.W.fnOf x qual params body scope .none kV doc pm an cdv ct) args = pure bs) : BindsTo s fd args bs := by
  obtain ⟨oc, od, dV, kV, doc, pm, an, cdv, ct, osl, rfl, lk, hcd, hD, hK⟩ := F.ex
  rcases hD with ⟨_, rfl⟩ | ⟨e, _⟩
  · exact .of_eq (h kV doc pm an cdv ct)
  · exact absurd rfl e
/-- the law's own call: the script is the others' list -/
theorem law_sp {K : PySem.W.Frag} {c : Ct} {H : Hp} {a : Addr} {ns : List Int} (hS : SqL K H a (ns.map V.int)) (hc : c [.fz (ns.map D.int)] [] X0 fun d _ => d = .bl true) : spOf K 1 c [.ref a] H (fun v _ => v = .bl true) fun _ _ _ => False := by
  refine ⟨[], [.fz (ns.map D.int)], [], X0, _, rfl, ⟨rfl, List.nodup_nil, fun i b a h => by simp at h⟩, ⟨.ref a, [], rfl, ⟨a, ns.map V.int, rfl, ?_, DVs.of_ints⟩, rfl⟩, hc, fun _ _ _ _ _ _ _ _ _ z => z.elim, fun ρ' d h' v H' _ _ dv q => ?_⟩
  · exact hS.imp (fun h => ⟨by simp, h⟩) id
  · subst q; exact dv
end L2.MW

namespace L2.MW.K47
open PySem PySem.Spec PyProof.Rows L2 L2.MW
/-! ### what is meant -/
/-- plain data: its kind is told by its shape -/
def plB : D → Bool
  | .non => true
  | .bl _ => true
  | .int _ => true
  | .str _ => true
  | .tup _ => true
  | .lst _ => true
  | .fz _ => true
  | _ => false
def numB : D → Bool
  | .int _ => true
  | _ => false
def tupB : D → Bool
  | .tup _ => true
  | _ => false
def btw (d : D) (lo hi : Int) : Bool := match d with
  | .int i => decide (lo ≤ i) && decide (i ≤ hi)
  | _ => false
def iOf : D → Int
  | .int i => i
  | _ => 0
/-- rising whole numbers above last, below n -/
def subs (n : Int) : Int → List D → Bool
  | _, [] => true
  | last, x :: r => btw x (last + 1) (n - 1) && subs n (iOf x) r
def subB (d : D) (n : Int) : Bool := match d with
  | .tup l => subs n (-1) l
  | _ => false
/-- as bits -/
def maskN (ns : List Nat) : Nat := ns.foldl (fun m x => m ||| 2 ^ x) 0
def nats (ns : List Nat) : List D := ns.map fun (n : Nat) => D.int (n : Int)
def prN (p : Nat × Nat) : D := .tup [.int (p.1 : Int), .int (p.2 : Int)]
def prs (ps : List (Nat × Nat)) : List D := ps.map prN
/-- strictly rising pairs -/
def ltP (p q : Nat × Nat) : Prop := p.1 < q.1 ∨ (p.1 = q.1 ∧ p.2 < q.2)
/-- what the law's pairs are -/
structure PrOk (n : Nat) (ps : List (Nat × Nat)) : Prop where
  bd : ∀ p ∈ ps, p.1 < n ∧ p.2 < n ∧ p.1 ≠ p.2
  up : ps.Pairwise ltP
  few : ps.length ≤ 2000
/-- a state: the numbers of d have with each event its causes and no two in conflict -/
def okB (n : Nat) (cs fs : List (Nat × Nat)) (d : D) : Bool := match d with
  | .tup l => subs n (-1) l && (cs.all (fun p => !(l.any fun x => iOf x == (p.2 : Int)) || (l.any fun x => iOf x == (p.1 : Int))) && fs.all fun p => !((l.any fun x => iOf x == (p.1 : Int)) && (l.any fun x => iOf x == (p.2 : Int))))
  | _ => false
/-- of the cases that the law builds: the members' kinds are plain, too -/
def plV (d : D) : Prop := plB d = true ∧ ∀ l, d = .tup l → ∀ x ∈ l, plB x = true
/-! ### what each def promises -/
def ct_is_integer : Ct := fun ds h X Q => ∃ d, ds = [d] ∧ plB d = true ∧ Q (.bl (numB d)) h
def ct_is_between : Ct := fun ds h X Q => ∃ d lo hi, ds = [d, .int lo, .int hi] ∧ plB d = true ∧ Q (.bl (btw d lo hi)) h
def ct_is_subset : Ct := fun ds h X Q => ∃ d n, ds = [d, .int n] ∧ plV d ∧ Q (.bl (subB d n)) h
def ct_mask_of : Ct := fun ds h X Q => ∃ ns : List Nat, ds = [.tup (nats ns)] ∧ (∀ n ∈ ns, n < 1000) ∧ Q (.int (maskN ns : Nat)) h
/-- a right pair -/
def ct_is_pair : Ct := fun ds h X Q => ∃ (p : Nat × Nat) (n : Nat) (b : Bool), ds = [prN p, .int n, .bl b] ∧ p.1 < n ∧ p.2 < n ∧ p.1 ≠ p.2 ∧ (b = true → p.1 < p.2) ∧ Q (.bl true) h
def ct_first_wrong_pair : Ct := fun ds h X Q => ∃ (ps : List (Nat × Nat)) (n : Nat) (b : Bool), ds = [.lst (prs ps), .int n, .bl b] ∧ PrOk n ps ∧ (b = true → ∀ p ∈ ps, p.1 < p.2) ∧ Q .non h
/-- a rank that each cause keeps -/
def Ranked (ps : List (Nat × Nat)) : Prop := ∃ r : Nat → Nat, ∀ p ∈ ps, r p.1 < r p.2
def ct_leading_masks : Ct := fun ds h X Q => ∃ (ps : List (Nat × Nat)) (n : Nat), ds = [.int n, .lst (prs ps)] ∧ n ≤ 40 ∧ PrOk n ps ∧ Ranked ps ∧ ∀ ms : List Nat, ms.length = n → (∀ e m : Nat, ms[e]? = some m → m.testBit e = false) → Q (.lst (nats ms)) h
def ct_has_cycle : Ct := fun ds h X Q => ∃ (ps : List (Nat × Nat)) (n : Nat), ds = [.int n, .lst (prs ps)] ∧ n ≤ 40 ∧ PrOk n ps ∧ Ranked ps ∧ Q (.bl false) h
def evD (n : Nat) (cs fs : List (Nat × Nat)) : List (Str × D) := [("many", .int n), ("causes", .tup (prs cs)), ("conflicts", .tup (prs fs))]
def ct_Events_init : Ct := fun ds h X Q => ∃ (i n : Nat) (cs fs : List (Nat × Nat)), ds = [.ref i, .int n, .lst (prs cs), .lst (prs fs)] ∧ h[i]? = some (.ins "Events" []) ∧ n ≤ 39 ∧ PrOk n cs ∧ Ranked cs ∧ PrOk n fs ∧ (∀ p ∈ fs, p.1 < p.2) ∧ Q .non (h.set i (.ins "Events" (evD n cs fs)))
def ct_is_state : Ct := fun ds h X Q => ∃ (n : Nat) (cs fs : List (Nat × Nat)) (d : D), ds = [.obj "Events" (evD n cs fs), d] ∧ n ≤ 39 ∧ PrOk n cs ∧ PrOk n fs ∧ plV d ∧ Q (.bl (okB n cs fs d)) h
/-! the law's own -/
def ct__law_cell : Ct := fun ds h X Q => ∃ (ns : List Int) (k : Int), ds = [.fz (ns.map D.int), .int k] ∧ 0 ≤ k ∧ ns.length ≤ 63 ∧ ∀ i : Int, Q (.int i) h
def ct__law_row : Ct := fun ds h X Q => ∃ (ns : List Int) (a m l : Nat), ds = [.fz (ns.map D.int), .int a, .int m, .int l] ∧ ns.length ≤ 63 ∧ m ≤ 1000 ∧ 0 < l ∧ l < 1000000 ∧ ∀ r : List Nat, r.length = m → (∀ x ∈ r, x < l) → Q (.lst (nats r)) h
def ct__law_pairs : Ct := fun ds h X Q => ∃ (dr : List Nat) (n : Nat) (o : List Nat), ds = [.lst (nats dr), .int n, .lst (nats o)] ∧ dr.length ≤ 1000 ∧ o.length = n ∧ n ≤ 39 ∧ (∀ x ∈ o, x < n) ∧ o.Nodup ∧
  ∀ ps : List (Nat × Nat), PrOk n ps → (∀ p ∈ ps, ∃ i j : Nat, i < j ∧ o[i]? = some p.1 ∧ o[j]? = some p.2) → Q (.lst (prs ps)) h
def ct__law_parts : Ct := fun ds h X Q => ∃ ns : List Int, ds = [.fz (ns.map D.int)] ∧ ns.length ≤ 63 ∧ ∀ (n : Nat) (cs fs : List (Nat × Nat)), n ≤ 39 → PrOk n cs → Ranked cs → PrOk n fs → (∀ p ∈ fs, p.1 < p.2) → Q (.lst [.int n, .lst (prs cs), .lst (prs fs)]) h
def ct__law_due : Ct := fun ds h X Q => ∃ (n : Nat) (cs fs : List (Nat × Nat)) (d : D), ds = [.int n, .lst (prs cs), .lst (prs fs), d] ∧ n ≤ 39 ∧ PrOk n cs ∧ PrOk n fs ∧ plV d ∧ (∀ l, d = .tup l → l.length ≤ 10000) ∧ Q (.bl (okB n cs fs d)) h
def ct__law_needs : Ct := fun ds h X Q => ∃ (n : Nat) (cs : List (Nat × Nat)), ds = [.int n, .lst (prs cs)] ∧ n ≤ 39 ∧ PrOk n cs ∧ ∀ ms : List Nat, ms.length = n → Q (.lst (nats ms)) h
def ct__law_in : Ct := fun ds h X Q => ∃ n m : Nat, ds = [.int n, .int m] ∧ n ≤ 39 ∧ Q (.tup (nats ((List.range n).filter fun k => m.testBit k))) h
def ct__law_state : Ct := fun ds h X Q => ∃ (n : Nat) (cs fs : List (Nat × Nat)) (dr : List Nat), ds = [.int n, .lst (prs cs), .lst (prs fs), .lst (nats dr)] ∧ n ≤ 39 ∧ PrOk n cs ∧ PrOk n fs ∧ ∀ m : Nat, Q (.int m) h
def okV (d : D) : Prop := plV d ∧ (∀ l, d = .tup l → l.length ≤ 10000) ∧ ∀ m, Bd m d
def ct__law_values : Ct := fun ds h X Q => ∃ (n : Nat) (fs : List (Nat × Nat)) (m : Nat) (dr : List Nat), ds = [.int n, .lst (prs fs), .int m, .lst (nats dr)] ∧ n ≤ 39 ∧ PrOk n fs ∧ 2 ≤ dr.length ∧ ∀ vs : List D, (∀ v ∈ vs, okV v) → Q (.lst vs) h
def ct__law_asked : Ct := fun ds h X Q => ∃ ns : List Int, ds = [.fz (ns.map D.int)] ∧ ns.length ≤ 63 ∧ Q (.bl true) h
def ct_law : Ct := ct__law_asked
def top (i : Nat) : Stmt := PySem.Challenge.pw_middlewebs_k47_state_judge.main.body.getD i (.Pass ⟨0, 0, 0, 0⟩)
def mem (s : Stmt) (i : Nat) : Stmt := match s with
  | .ClassDef _ _ _ b .. => b.getD i (.Pass ⟨0, 0, 0, 0⟩)
  | s => s
abbrev fc_many : List String := ["Events"]
abbrev fc_causes : List String := ["Events"]
abbrev fc_conflicts : List String := ["Events"]
abbrev kcs : List String := []
structure Gm (K : PySem.W.Frag) (mg : Str → Option Value) : Prop where
  m_bool : mg "bool" = none
  m_enumerate : mg "enumerate" = none
  m_int : mg "int" = none
  m_isinstance : mg "isinstance" = none
  m_len : mg "len" = none
  m_list : mg "list" = none
  m_max : mg "max" = none
  m_min : mg "min" = none
  m_range : mg "range" = none
  m_reversed : mg "reversed" = none
  m_sorted : mg "sorted" = none
  m_tuple : mg "tuple" = none
  i_MOST_EVENTS : ∃ t, mg "MOST_EVENTS" = some (.int 39 t)
  f_many : FldOk K fc_many "many"
  f_causes : FldOk K fc_causes "causes"
  f_conflicts : FldOk K fc_conflicts "conflicts"
  kit : KitF K kcs
abbrev s_is_integer : Stmt := top 4
abbrev N_is_integer : List Str := ["value"]
abbrev P_is_integer : List Str := ["value"]
theorem sc_is_integer : FnScope N_is_integer P_is_integer (defScope s_is_integer) := ⟨rfl, rfl, rfl, by decide +kernel, rfl, by decide +kernel, by decide +kernel⟩
def tb_is_integer : DS :=
 (sRet (dAndV (dCB (nIsi kcs) (aCons (dVar 0) (aCons (dC (.ty "int")) aNil))) (dNotV (dCB (nIsi kcs) (aCons (dVar 0) (aCons (dC (.ty "bool")) aNil))))))
theorem bd_is_integer {P : Program} {w : World} {K : PySem.W.Frag} {mg : Str → Option Value} {base : Heap} (G : Gm K mg)  : BodyC P w K mg base N_is_integer "is_integer" (defScope s_is_integer) (defBody s_is_integer) 0 tb_is_integer :=
 fun f cd A outer s H E hr tk hp =>
 (ss_one (s1_ret (se_and (se_isi G.kit G.m_isinstance (sa_cons (se_var 0) (sa_cons (se_ty rfl G.m_int (by decide +kernel)) sa_nil))) (se_one (se_not (se_isi G.kit G.m_isinstance (sa_cons (se_var 0) (sa_cons (se_ty rfl G.m_bool (by decide +kernel)) sa_nil))))))))
abbrev s_is_between : Stmt := top 5
abbrev N_is_between : List Str := ["value", "low", "high"]
abbrev P_is_between : List Str := ["value", "low", "high"]
theorem sc_is_between : FnScope N_is_between P_is_between (defScope s_is_between) := ⟨rfl, rfl, rfl, by decide +kernel, rfl, by decide +kernel, by decide +kernel⟩
def tb_is_between : DS :=
 (sRet (dAndV (dCall ct_is_integer 1 (aCons (dVar 0) aNil)) (dChn oLe oLe (dVar 1) (dVar 0) (dVar 2))))
theorem bd_is_between {P : Program} {w : World} {K : PySem.W.Frag} {mg : Str → Option Value} {base : Heap} (G : Gm K mg) (F_is_integer : FnC P w K mg base 1 "is_integer" 1 ct_is_integer) : BodyC P w K mg base N_is_between "is_between" (defScope s_is_between) (defBody s_is_between) 1 tb_is_between :=
 fun f cd A outer s H E hr tk hp =>
 (ss_one (s1_ret (se_and (se_call F_is_integer tk (hr.mono (by decide)) (sa_cons (se_var 0) sa_nil)) (se_one (se_chn op_le L_CI op_le L_CI (se_var 1) (se_var 0) (se_var 2))))))
abbrev s_is_subset : Stmt := top 6
abbrev N_is_subset : List Str := ["value", "size", "last", "vertex"]
abbrev P_is_subset : List Str := ["value", "size"]
theorem sc_is_subset : FnScope N_is_subset P_is_subset (defScope s_is_subset) := ⟨rfl, rfl, rfl, by decide +kernel, rfl, by decide +kernel, by decide +kernel⟩
def tb_is_subset : DS :=
 (sSeq (sIf (dNot (dTru (dCB (nIsi kcs) (aCons (dVar 0) (aCons (dC (.ty "tuple")) aNil)))))
 (sRet (dC (.bl false)))
 sNil)
 (sSeq (sSet 2 (dNeg (dC (.int 1))))
 (sSeq (sFor (iT (dVar 0)) (tgN 3)
 (sSeq (sIf (dNot (dTru (dCall ct_is_between 3 (aCons (dVar 3) (aCons (dOp dAdd (dVar 2) (dC (.int 1))) (aCons (dOp oSub (dVar 1) (dC (.int 1))) aNil))))))
 (sRet (dC (.bl false)))
 sNil)
 (sSet 2 (dVar 3))))
 (sRet (dC (.bl true))))))
theorem bd_is_subset {P : Program} {w : World} {K : PySem.W.Frag} {mg : Str → Option Value} {base : Heap} (G : Gm K mg) (F_is_between : FnC P w K mg base 2 "is_between" 3 ct_is_between) : BodyC P w K mg base N_is_subset "is_subset" (defScope s_is_subset) (defBody s_is_subset) 2 tb_is_subset :=
 fun f cd A outer s H E hr tk hp =>
 (ss_cons (s1_if (st_not (st_tru (se_isi G.kit G.m_isinstance (sa_cons (se_var 0) (sa_cons (se_ty rfl G.m_tuple (by decide +kernel)) sa_nil)))))
 (ss_one (s1_ret se_bl))
 ss_nil)
 (ss_cons (s1_set 2 sc_is_subset.nd (se_neg se_int))
 (ss_cons (s1_for hp rfl (si_tup (se_var 0)) (sg_name sc_is_subset.nd)
 (ss_cons (s1_if (st_not (st_tru (se_call F_is_between tk (hr.mono (by decide)) (sa_cons (se_var 3) (sa_cons (se_add (se_var 2) se_int) (sa_cons (se_sub2 (se_var 1) se_int) sa_nil))))))
 (ss_one (s1_ret se_bl))
 ss_nil)
 (ss_one (s1_set 2 sc_is_subset.nd (se_var 3)))))
 (ss_one (s1_ret se_bl)))))
abbrev s_mask_of : Stmt := top 7
abbrev N_mask_of : List Str := ["subset", "mask", "member"]
abbrev P_mask_of : List Str := ["subset"]
theorem sc_mask_of : FnScope N_mask_of P_mask_of (defScope s_mask_of) := ⟨rfl, rfl, rfl, by decide +kernel, rfl, by decide +kernel, by decide +kernel⟩
def tb_mask_of : DS :=
 (sSeq (sSet 1 (dC (.int 0)))
 (sSeq (sFor (iT (dVar 0)) (tgN 2)
 (sSet 1 (dOp oOr (dVar 1) (dOp oShl (dC (.int 1)) (dVar 2)))))
 (sRet (dVar 1))))
theorem bd_mask_of {P : Program} {w : World} {K : PySem.W.Frag} {mg : Str → Option Value} {base : Heap} (G : Gm K mg)  : BodyC P w K mg base N_mask_of "mask_of" (defScope s_mask_of) (defBody s_mask_of) 0 tb_mask_of :=
 fun f cd A outer s H E hr tk hp =>
 (ss_cons (s1_set 1 sc_mask_of.nd se_int)
 (ss_cons (s1_for hp rfl (si_tup (se_var 0)) (sg_name sc_mask_of.nd)
 (ss_one (s1_set 1 sc_mask_of.nd (se_bor (se_var 1) (se_shl se_int (se_var 2))))))
 (ss_one (s1_ret (se_var 1)))))
abbrev s_is_pair : Stmt := top 11
abbrev N_is_pair : List Str := ["value", "many", "rising"]
abbrev P_is_pair : List Str := ["value", "many", "rising"]
theorem sc_is_pair : FnScope N_is_pair P_is_pair (defScope s_is_pair) := ⟨rfl, rfl, rfl, by decide +kernel, rfl, by decide +kernel, by decide +kernel⟩
def tb_is_pair : DS :=
 (sSeq (sIf (dOr (dNot (dTru (dCB (nIsi kcs) (aCons (dVar 0) (aCons (dC (.ty "tuple")) aNil))))) (dTst (dOp dNe (dCB nLen (aCons (dVar 0) aNil)) (dC (.int 2)))))
 (sRet (dC (.bl false)))
 sNil)
 (sSeq (sIf (dOr (dNot (dTru (dCall ct_is_between 3 (aCons (dOp dIx (dVar 0) (dC (.int 0))) (aCons (dC (.int 0)) (aCons (dOp oSub (dVar 1) (dC (.int 1))) aNil)))))) (dNot (dTru (dCall ct_is_between 3 (aCons (dOp dIx (dVar 0) (dC (.int 1))) (aCons (dC (.int 0)) (aCons (dOp oSub (dVar 1) (dC (.int 1))) aNil)))))))
 (sRet (dC (.bl false)))
 sNil)
 (sRet (dOrV (dOp oLt (dOp dIx (dVar 0) (dC (.int 0))) (dOp dIx (dVar 0) (dC (.int 1)))) (dAndV (dOp oGt (dOp dIx (dVar 0) (dC (.int 0))) (dOp dIx (dVar 0) (dC (.int 1)))) (dNotV (dVar 2)))))))
theorem bd_is_pair {P : Program} {w : World} {K : PySem.W.Frag} {mg : Str → Option Value} {base : Heap} (G : Gm K mg) (F_is_between : FnC P w K mg base 2 "is_between" 3 ct_is_between) : BodyC P w K mg base N_is_pair "is_pair" (defScope s_is_pair) (defBody s_is_pair) 2 tb_is_pair :=
 fun f cd A outer s H E hr tk hp =>
 (ss_cons (s1_if (st_w (sw_or (st_not (st_tru (se_isi G.kit G.m_isinstance (sa_cons (se_var 0) (sa_cons (se_ty rfl G.m_tuple (by decide +kernel)) sa_nil))))) (sw_or1 (st_ne (uu hr) (se_len G.m_len (sa_cons (se_var 0) sa_nil)) se_int))))
 (ss_one (s1_ret se_bl))
 ss_nil)
 (ss_cons (s1_if (st_w (sw_or (st_not (st_tru (se_call F_is_between tk (hr.mono (by decide)) (sa_cons (se_sub (se_var 0) se_int) (sa_cons se_int (sa_cons (se_sub2 (se_var 1) se_int) sa_nil)))))) (sw_or1 (st_not (st_tru (se_call F_is_between tk (hr.mono (by decide)) (sa_cons (se_sub (se_var 0) se_int) (sa_cons se_int (sa_cons (se_sub2 (se_var 1) se_int) sa_nil)))))))))
 (ss_one (s1_ret se_bl))
 ss_nil)
 (ss_one (s1_ret (se_or (se_lt (se_sub (se_var 0) se_int) (se_sub (se_var 0) se_int)) (se_one (se_and (se_gt (se_sub (se_var 0) se_int) (se_sub (se_var 0) se_int)) (se_one (se_not (se_var 2))))))))))
abbrev s_first_wrong_pair : Stmt := top 12
abbrev N_first_wrong_pair : List Str := ["pairs", "many", "rising", "place", "pair"]
abbrev P_first_wrong_pair : List Str := ["pairs", "many", "rising"]
theorem sc_first_wrong_pair : FnScope N_first_wrong_pair P_first_wrong_pair (defScope s_first_wrong_pair) := ⟨rfl, rfl, rfl, by decide +kernel, rfl, by decide +kernel, by decide +kernel⟩
def tb_first_wrong_pair : DS :=
 (sSeq (sIf (dNot (dTru (dCB (nIsi kcs) (aCons (dVar 0) (aCons (dTup (aCons (dC (.ty "list")) (aCons (dC (.ty "tuple")) aNil))) aNil)))))
 (sRet (dC (.int 0)))
 sNil)
 (sSeq (sFor (iEnumD (aCons (dVar 0) aNil)) (tgTup 2 (tgsCons (tgN 3) (tgsCons (tgN 4) tgsNil)))
 (sSeq (sIf (dNot (dTru (dCall ct_is_pair 3 (aCons (dVar 4) (aCons (dVar 1) (aCons (dVar 2) aNil))))))
 (sRet (dVar 3))
 sNil)
 (sIf (dAnd (dTst (dOp oGt (dVar 3) (dC (.int 0)))) (dTst (dOp dLeT (dVar 4) (dOp dIx (dVar 0) (dOp oSub (dVar 3) (dC (.int 1)))))))
 (sRet (dVar 3))
 sNil)))
 (sRet (dC .non))))
theorem bd_first_wrong_pair {P : Program} {w : World} {K : PySem.W.Frag} {mg : Str → Option Value} {base : Heap} (G : Gm K mg) (F_is_pair : FnC P w K mg base 3 "is_pair" 3 ct_is_pair) : BodyC P w K mg base N_first_wrong_pair "first_wrong_pair" (defScope s_first_wrong_pair) (defBody s_first_wrong_pair) 3 tb_first_wrong_pair :=
 fun f cd A outer s H E hr tk hp =>
 (ss_cons (s1_if (st_not (st_tru (se_isi G.kit G.m_isinstance (sa_cons (se_var 0) (sa_cons (se_tup (sa_cons (se_ty rfl G.m_list (by decide +kernel)) (sa_cons (se_ty rfl G.m_tuple (by decide +kernel)) sa_nil))) sa_nil)))))
 (ss_one (s1_ret se_int))
 ss_nil)
 (ss_cons (s1_for hp rfl (si_enum G.m_enumerate (sa_cons (se_var 0) sa_nil)) (sg_tup rfl (sgs_cons (sg_name sc_first_wrong_pair.nd) (sgs_cons (sg_name sc_first_wrong_pair.nd) (sgs_nil (T := [])))))
 (ss_cons (s1_if (st_not (st_tru (se_call F_is_pair tk (hr.mono (by decide)) (sa_cons (se_var 4) (sa_cons (se_var 1) (sa_cons (se_var 2) sa_nil))))))
 (ss_one (s1_ret (se_var 3)))
 ss_nil)
 (ss_one (s1_if (st_w (sw_and (st_gt (se_var 3) se_int) (sw_and1 (st_leT (uu0 hr) (se_var 4) (se_sub (se_var 0) (se_sub2 (se_var 3) se_int))))))
 (ss_one (s1_ret (se_var 3)))
 ss_nil))))
 (ss_one (s1_ret se_non))))
abbrev s_leading_masks : Stmt := top 13
abbrev N_leading_masks : List Str := ["many", "causes", "masks", "a", "b", "middle", "event"]
abbrev P_leading_masks : List Str := ["many", "causes"]
theorem sc_leading_masks : FnScope N_leading_masks P_leading_masks (defScope s_leading_masks) := ⟨rfl, rfl, rfl, by decide +kernel, rfl, by decide +kernel, by decide +kernel⟩
def tb_leading_masks : DS :=
 (sSeq (sSet 2 (dOp dMulH (dLst (aCons (dC (.int 0)) aNil)) (dVar 0)))
 (sSeq (sFor (iL (dVar 1)) (tgTup 2 (tgsCons (tgN 3) (tgsCons (tgN 4) tgsNil)))
 (sAugS dIor (dVar 2) (dVar 4) (dOp oShl (dC (.int 1)) (dVar 3))))
 (sSeq (sFor (iR1 (aCons (dVar 0) aNil)) (tgN 5)
 (sFor (iR1 (aCons (dVar 0) aNil)) (tgN 6)
 (sIf (dTru (dOp oAnd (dOp oShr (dOp dIx (dVar 2) (dVar 6)) (dVar 5)) (dC (.int 1))))
 (sAsg (dOp oOr (dOp dIx (dVar 2) (dVar 6)) (dOp dIx (dVar 2) (dVar 5))) (tgSub (dVar 2) (dVar 6)))
 sNil)))
 (sRet (dVar 2)))))
theorem bd_leading_masks {P : Program} {w : World} {K : PySem.W.Frag} {mg : Str → Option Value} {base : Heap} (G : Gm K mg)  : BodyC P w K mg base N_leading_masks "leading_masks" (defScope s_leading_masks) (defBody s_leading_masks) 0 tb_leading_masks :=
 fun f cd A outer s H E hr tk hp =>
 (ss_cons (s1_set 2 sc_leading_masks.nd (se_mulH (se_lst (sa_cons se_int sa_nil)) (se_var 0)))
 (ss_cons (s1_for hp rfl (si_list (se_var 1)) (sg_tup rfl (sgs_cons (sg_name sc_leading_masks.nd) (sgs_cons (sg_name sc_leading_masks.nd) (sgs_nil (T := [])))))
 (ss_one (s1_augSor (se_var 2) (se_var 4) (se_shl se_int (se_var 3)))))
 (ss_cons (s1_for hp rfl (si_range1 G.m_range (sa_cons (se_var 0) sa_nil)) (sg_name sc_leading_masks.nd)
 (ss_one (s1_for hp rfl (si_range1 G.m_range (sa_cons (se_var 0) sa_nil)) (sg_name sc_leading_masks.nd)
 (ss_one (s1_if (st_tru (se_band (se_shr (se_sub (se_var 2) (se_var 6)) (se_var 5)) se_int))
 (ss_one (s1_asg (se_bor (se_sub (se_var 2) (se_var 6)) (se_sub (se_var 2) (se_var 5))) (sg_sub (se_var 2) (se_var 6))))
 ss_nil)))))
 (ss_one (s1_ret (se_var 2))))))
abbrev s_has_cycle : Stmt := top 14
abbrev N_has_cycle : List Str := ["many", "causes", "masks", "event"]
abbrev P_has_cycle : List Str := ["many", "causes"]
theorem sc_has_cycle : FnScope N_has_cycle P_has_cycle (defScope s_has_cycle) := ⟨rfl, rfl, rfl, by decide +kernel, rfl, by decide +kernel, by decide +kernel⟩
def tb_has_cycle : DS :=
 (sSeq (sSet 2 (dCall ct_leading_masks 2 (aCons (dVar 0) (aCons (dVar 1) aNil))))
 (sSeq (sFor (iR1 (aCons (dVar 0) aNil)) (tgN 3)
 (sIf (dTru (dOp oAnd (dOp oShr (dOp dIx (dVar 2) (dVar 3)) (dVar 3)) (dC (.int 1))))
 (sRet (dC (.bl true)))
 sNil))
 (sRet (dC (.bl false)))))
theorem bd_has_cycle {P : Program} {w : World} {K : PySem.W.Frag} {mg : Str → Option Value} {base : Heap} (G : Gm K mg) (F_leading_masks : FnC P w K mg base 1 "leading_masks" 2 ct_leading_masks) : BodyC P w K mg base N_has_cycle "has_cycle" (defScope s_has_cycle) (defBody s_has_cycle) 1 tb_has_cycle :=
 fun f cd A outer s H E hr tk hp =>
 (ss_cons (s1_set 2 sc_has_cycle.nd (se_call F_leading_masks tk (hr.mono (by decide)) (sa_cons (se_var 0) (sa_cons (se_var 1) sa_nil))))
 (ss_cons (s1_for hp rfl (si_range1 G.m_range (sa_cons (se_var 0) sa_nil)) (sg_name sc_has_cycle.nd)
 (ss_one (s1_if (st_tru (se_band (se_shr (se_sub (se_var 2) (se_var 3)) (se_var 3)) se_int))
 (ss_one (s1_ret se_bl))
 ss_nil)))
 (ss_one (s1_ret se_bl))))
abbrev s_Events_init : Stmt := mem (top 10) 0
abbrev N_Events_init : List Str := ["self", "many", "causes", "conflicts", "place"]
abbrev P_Events_init : List Str := ["self", "many", "causes", "conflicts"]
theorem sc_Events_init : FnScope N_Events_init P_Events_init (defScope s_Events_init) := ⟨rfl, rfl, rfl, by decide +kernel, rfl, by decide +kernel, by decide +kernel⟩
def tb_Events_init : DS :=
 (sSeq (sIf (dNot (dTru (dCall ct_is_between 3 (aCons (dVar 1) (aCons (dC (.int 0)) (aCons (dC (.int 39)) aNil))))))
 sNever
 sNil)
 (sSeq (sSet 4 (dCall ct_first_wrong_pair 3 (aCons (dVar 2) (aCons (dVar 1) (aCons (dC (.bl false)) aNil)))))
 (sSeq (sIf (dTst (dOp dNotN (dVar 4) (dC .non)))
 sNever
 sNil)
 (sSeq (sIf (dTru (dCall ct_has_cycle 2 (aCons (dVar 1) (aCons (dVar 2) aNil))))
 sNever
 sNil)
 (sSeq (sSet 4 (dCall ct_first_wrong_pair 3 (aCons (dVar 3) (aCons (dVar 1) (aCons (dC (.bl true)) aNil)))))
 (sSeq (sIf (dTst (dOp dNotN (dVar 4) (dC .non)))
 sNever
 sNil)
 (sSeq (sFldD fc_many "many" (dVar 0) (dVar 1))
 (sSeq (sFldD fc_causes "causes" (dVar 0) (dCB nTup (aCons (dVar 2) aNil)))
 (sFldD fc_conflicts "conflicts" (dVar 0) (dCB nTup (aCons (dVar 3) aNil)))))))))))
theorem bd_Events_init {P : Program} {w : World} {K : PySem.W.Frag} {mg : Str → Option Value} {base : Heap} (G : Gm K mg) (F_first_wrong_pair : FnC P w K mg base 4 "first_wrong_pair" 3 ct_first_wrong_pair) (F_has_cycle : FnC P w K mg base 2 "has_cycle" 2 ct_has_cycle) (F_is_between : FnC P w K mg base 2 "is_between" 3 ct_is_between) : BodyC P w K mg base N_Events_init "Events.__init__" (defScope s_Events_init) (defBody s_Events_init) 4 tb_Events_init :=
 fun f cd A outer s H E hr tk hp =>
 (ss_cons (s1_if (st_not (st_tru (se_call F_is_between tk (hr.mono (by decide)) (sa_cons (se_var 1) (sa_cons se_int (sa_cons (se_gint rfl G.i_MOST_EVENTS) sa_nil))))))
 ss_never
 ss_nil)
 (ss_cons (s1_set 4 sc_Events_init.nd (se_call F_first_wrong_pair tk (hr.mono (by decide)) (sa_cons (se_var 2) (sa_cons (se_var 1) (sa_cons se_bl sa_nil)))))
 (ss_cons (s1_if (st_notN (se_var 4) se_non)
 ss_never
 ss_nil)
 (ss_cons (s1_if (st_tru (se_call F_has_cycle tk (hr.mono (by decide)) (sa_cons (se_var 1) (sa_cons (se_var 2) sa_nil))))
 ss_never
 ss_nil)
 (ss_cons (s1_set 4 sc_Events_init.nd (se_call F_first_wrong_pair tk (hr.mono (by decide)) (sa_cons (se_var 3) (sa_cons (se_var 1) (sa_cons se_bl sa_nil)))))
 (ss_cons (s1_if (st_notN (se_var 4) se_non)
 ss_never
 ss_nil)
 (ss_cons (s1_fld (cs := fc_many) G.f_many (se_var 0) (se_var 1))
 (ss_cons (s1_fld (cs := fc_causes) G.f_causes (se_var 0) (se_tuple G.m_tuple (sa_cons (se_var 2) sa_nil)))
 (ss_one (s1_fld (cs := fc_conflicts) G.f_conflicts (se_var 0) (se_tuple G.m_tuple (sa_cons (se_var 3) sa_nil))))))))))))
abbrev s_is_state : Stmt := top 15
abbrev N_is_state : List Str := ["events", "value", "mask", "a", "b"]
abbrev P_is_state : List Str := ["events", "value"]
theorem sc_is_state : FnScope N_is_state P_is_state (defScope s_is_state) := ⟨rfl, rfl, rfl, by decide +kernel, rfl, by decide +kernel, by decide +kernel⟩
def tb_is_state : DS :=
 (sSeq (sIf (dNot (dTru (dCall ct_is_subset 2 (aCons (dVar 1) (aCons (dFldC fc_many "many" (dVar 0)) aNil)))))
 (sRet (dC (.bl false)))
 sNil)
 (sSeq (sSet 2 (dCall ct_mask_of 1 (aCons (dVar 1) aNil)))
 (sSeq (sFor (iT (dFldC fc_causes "causes" (dVar 0))) (tgTup 2 (tgsCons (tgN 3) (tgsCons (tgN 4) tgsNil)))
 (sIf (dAnd (dTru (dOp oAnd (dOp oShr (dVar 2) (dVar 4)) (dC (.int 1)))) (dNot (dTru (dOp oAnd (dOp oShr (dVar 2) (dVar 3)) (dC (.int 1))))))
 (sRet (dC (.bl false)))
 sNil))
 (sSeq (sFor (iT (dFldC fc_conflicts "conflicts" (dVar 0))) (tgTup 2 (tgsCons (tgN 3) (tgsCons (tgN 4) tgsNil)))
 (sIf (dAnd (dTru (dOp oAnd (dOp oShr (dVar 2) (dVar 3)) (dC (.int 1)))) (dTru (dOp oAnd (dOp oShr (dVar 2) (dVar 4)) (dC (.int 1)))))
 (sRet (dC (.bl false)))
 sNil))
 (sRet (dC (.bl true)))))))
theorem bd_is_state {P : Program} {w : World} {K : PySem.W.Frag} {mg : Str → Option Value} {base : Heap} (G : Gm K mg) (F_is_subset : FnC P w K mg base 3 "is_subset" 2 ct_is_subset) (F_mask_of : FnC P w K mg base 1 "mask_of" 1 ct_mask_of) : BodyC P w K mg base N_is_state "is_state" (defScope s_is_state) (defBody s_is_state) 3 tb_is_state :=
 fun f cd A outer s H E hr tk hp =>
 (ss_cons (s1_if (st_not (st_tru (se_call F_is_subset tk (hr.mono (by decide)) (sa_cons (se_var 1) (sa_cons (se_fld (cs := fc_many) G.f_many (se_var 0)) sa_nil)))))
 (ss_one (s1_ret se_bl))
 ss_nil)
 (ss_cons (s1_set 2 sc_is_state.nd (se_call F_mask_of tk (hr.mono (by decide)) (sa_cons (se_var 1) sa_nil)))
 (ss_cons (s1_for hp rfl (si_tup (se_fld (cs := fc_causes) G.f_causes (se_var 0))) (sg_tup rfl (sgs_cons (sg_name sc_is_state.nd) (sgs_cons (sg_name sc_is_state.nd) (sgs_nil (T := [])))))
 (ss_one (s1_if (st_w (sw_and (st_tru (se_band (se_shr (se_var 2) (se_var 4)) se_int)) (sw_and1 (st_not (st_tru (se_band (se_shr (se_var 2) (se_var 3)) se_int))))))
 (ss_one (s1_ret se_bl))
 ss_nil)))
 (ss_cons (s1_for hp rfl (si_tup (se_fld (cs := fc_conflicts) G.f_conflicts (se_var 0))) (sg_tup rfl (sgs_cons (sg_name sc_is_state.nd) (sgs_cons (sg_name sc_is_state.nd) (sgs_nil (T := [])))))
 (ss_one (s1_if (st_w (sw_and (st_tru (se_band (se_shr (se_var 2) (se_var 3)) se_int)) (sw_and1 (st_tru (se_band (se_shr (se_var 2) (se_var 4)) se_int)))))
 (ss_one (s1_ret se_bl))
 ss_nil)))
 (ss_one (s1_ret se_bl))))))
abbrev s__law_cell : Stmt := top 17
abbrev N__law_cell : List Str := ["script", "k"]
abbrev P__law_cell : List Str := ["script", "k"]
theorem sc__law_cell : FnScope N__law_cell P__law_cell (defScope s__law_cell) := ⟨rfl, rfl, rfl, by decide +kernel, rfl, by decide +kernel, by decide +kernel⟩
def tb__law_cell : DS :=
 (sSeq (sIf (dTst (dOp oLt (dVar 1) (dCB nLen (aCons (dVar 0) aNil))))
 (sRet (dCB nInt (aCons (dOp dIx (dVar 0) (dVar 1)) aNil)))
 sNil)
 (sRet (dC (.int 0))))
theorem bd__law_cell {P : Program} {w : World} {K : PySem.W.Frag} {mg : Str → Option Value} {base : Heap} (G : Gm K mg)  : BodyC P w K mg base N__law_cell "_law_cell" (defScope s__law_cell) (defBody s__law_cell) 0 tb__law_cell :=
 fun f cd A outer s H E hr tk hp =>
 (ss_cons (s1_if (st_lt (se_var 1) (se_len G.m_len (sa_cons (se_var 0) sa_nil)))
 (ss_one (s1_ret (se_intc G.m_int (sa_cons (se_sub (se_var 0) (se_var 1)) sa_nil))))
 ss_nil)
 (ss_one (s1_ret se_int)))
abbrev s__law_row : Stmt := top 18
abbrev N__law_row : List Str := ["script", "at", "many", "limit", "row", "left", "k"]
abbrev P__law_row : List Str := ["script", "at", "many", "limit"]
theorem sc__law_row : FnScope N__law_row P__law_row (defScope s__law_row) := ⟨rfl, rfl, rfl, by decide +kernel, rfl, by decide +kernel, by decide +kernel⟩
def tb__law_row : DS :=
 (sSeq (sSet 4 (dLstH aNil))
 (sSeq (sSet 5 (dCall ct__law_cell 2 (aCons (dVar 0) (aCons (dVar 1) aNil))))
 (sSeq (sIf (dTst (dOp oGe (dVar 5) (dOp oPow (dC (.int 10)) (dC (.int 18)))))
 (sSeq (sSet 5 (dOp oSub (dVar 5) (dOp oPow (dC (.int 10)) (dC (.int 18)))))
 (sSeq (sFor (iR1 (aCons (dVar 2) aNil)) (tgN 6)
 (sSeq (sExpr (dBM "list" mApp (dVar 4) (aCons (dOp oMod (dCB nInt (aCons (dVar 5) aNil)) (dVar 3)) aNil)))
 (sSet 5 (dOp oDiv (dVar 5) (dVar 3)))))
 (sRet (dVar 4))))
 sNil)
 (sSeq (sSet 5 (dOp oMod (dCB nInt (aCons (dVar 5) aNil)) (dC (.int 2147483647))))
 (sSeq (sFor (iR1 (aCons (dVar 2) aNil)) (tgN 6)
 (sSeq (sSet 5 (dOp oMod (dCB nInt (aCons (dOp dMul (dOp dAdd (dOp dAdd (dOp dAdd (dVar 5) (dCall ct__law_cell 2 (aCons (dVar 0) (aCons (dOp dAdd (dOp dAdd (dVar 1) (dC (.int 4))) (dVar 6)) aNil)))) (dVar 6)) (dC (.int 1))) (dC (.int 48271))) aNil)) (dC (.int 2147483647))))
 (sExpr (dBM "list" mApp (dVar 4) (aCons (dOp oMod (dOp oDiv (dOp oMod (dCB nInt (aCons (dOp dAdd (dOp dMul (dVar 5) (dC (.int 69621))) (dOp dMul (dVar 6) (dC (.int 40692)))) aNil)) (dC (.int 1999999973))) (dC (.int 1009))) (dVar 3)) aNil)))))
 (sRet (dVar 4)))))))
theorem bd__law_row {P : Program} {w : World} {K : PySem.W.Frag} {mg : Str → Option Value} {base : Heap} (G : Gm K mg) (F__law_cell : FnC P w K mg base 1 "_law_cell" 2 ct__law_cell) : BodyC P w K mg base N__law_row "_law_row" (defScope s__law_row) (defBody s__law_row) 1 tb__law_row :=
 fun f cd A outer s H E hr tk hp =>
 (ss_cons (s1_set 4 sc__law_row.nd (se_lstH sa_nil))
 (ss_cons (s1_set 5 sc__law_row.nd (se_call F__law_cell tk (hr.mono (by decide)) (sa_cons (se_var 0) (sa_cons (se_var 1) sa_nil))))
 (ss_cons (s1_if (st_ge (se_var 5) (se_pow se_int se_int))
 (ss_cons (s1_set 5 sc__law_row.nd (se_sub2 (se_var 5) (se_pow se_int se_int)))
 (ss_cons (s1_for hp rfl (si_range1 G.m_range (sa_cons (se_var 2) sa_nil)) (sg_name sc__law_row.nd)
 (ss_cons (s1_expr (se_append (se_var 4) (sa_cons (se_mod (se_intc G.m_int (sa_cons (se_var 5) sa_nil)) (se_var 3)) sa_nil)))
 (ss_one (s1_set 5 sc__law_row.nd (se_fdiv (se_var 5) (se_var 3))))))
 (ss_one (s1_ret (se_var 4)))))
 ss_nil)
 (ss_cons (s1_set 5 sc__law_row.nd (se_mod (se_intc G.m_int (sa_cons (se_var 5) sa_nil)) se_int))
 (ss_cons (s1_for hp rfl (si_range1 G.m_range (sa_cons (se_var 2) sa_nil)) (sg_name sc__law_row.nd)
 (ss_cons (s1_set 5 sc__law_row.nd (se_mod (se_intc G.m_int (sa_cons (se_mul (se_add (se_add (se_add (se_var 5) (se_call F__law_cell tk (hr.mono (by decide)) (sa_cons (se_var 0) (sa_cons (se_add (se_add (se_var 1) se_int) (se_var 6)) sa_nil)))) (se_var 6)) se_int) se_int) sa_nil)) se_int))
 (ss_one (s1_expr (se_append (se_var 4) (sa_cons (se_mod (se_fdiv (se_mod (se_intc G.m_int (sa_cons (se_add (se_mul (se_var 5) se_int) (se_mul (se_var 6) se_int)) sa_nil)) se_int) se_int) (se_var 3)) sa_nil))))))
 (ss_one (s1_ret (se_var 4))))))))
abbrev s__law_pairs : Stmt := top 19
abbrev N__law_pairs : List Str := ["draws", "size", "order", "found", "draw", "low", "high"]
abbrev P__law_pairs : List Str := ["draws", "size", "order"]
theorem sc__law_pairs : FnScope N__law_pairs P__law_pairs (defScope s__law_pairs) := ⟨rfl, rfl, rfl, by decide +kernel, rfl, by decide +kernel, by decide +kernel⟩
def tb__law_pairs : DS :=
 (sSeq (sSet 3 (dLstH aNil))
 (sSeq (sFor (iL (dVar 0)) (tgN 4)
 (sIf (dTst (dOp oGt (dVar 1) (dC (.int 1))))
 (sSeq (sSet 5 (dCB nMin2 (aCons (dOp oMod (dVar 4) (dVar 1)) (aCons (dOp oMod (dOp oDiv (dVar 4) (dC (.int 40))) (dVar 1)) aNil))))
 (sSeq (sSet 6 (dCB nMax2 (aCons (dOp oMod (dVar 4) (dVar 1)) (aCons (dOp oMod (dOp oDiv (dVar 4) (dC (.int 40))) (dVar 1)) aNil))))
 (sIf (dAnd (dTst (dOp oLt (dVar 5) (dVar 6))) (dTst (dOp (dIn true) (dTup (aCons (dOp dIx (dVar 2) (dVar 5)) (aCons (dOp dIx (dVar 2) (dVar 6)) aNil))) (dVar 3))))
 (sExpr (dBM "list" mApp (dVar 3) (aCons (dTup (aCons (dOp dIx (dVar 2) (dVar 5)) (aCons (dOp dIx (dVar 2) (dVar 6)) aNil))) aNil)))
 sNil)))
 sNil))
 (sRet (dCB nSrtP (aCons (dVar 3) aNil)))))
theorem bd__law_pairs {P : Program} {w : World} {K : PySem.W.Frag} {mg : Str → Option Value} {base : Heap} (G : Gm K mg)  : BodyC P w K mg base N__law_pairs "_law_pairs" (defScope s__law_pairs) (defBody s__law_pairs) 0 tb__law_pairs :=
 fun f cd A outer s H E hr tk hp =>
 (ss_cons (s1_set 3 sc__law_pairs.nd (se_lstH sa_nil))
 (ss_cons (s1_for hp rfl (si_list (se_var 0)) (sg_name sc__law_pairs.nd)
 (ss_one (s1_if (st_gt (se_var 1) se_int)
 (ss_cons (s1_set 5 sc__law_pairs.nd (se_min2 rfl G.m_min (sa_cons (se_mod (se_var 4) (se_var 1)) (sa_cons (se_mod (se_fdiv (se_var 4) se_int) (se_var 1)) sa_nil))))
 (ss_cons (s1_set 6 sc__law_pairs.nd (se_max2 rfl G.m_max (sa_cons (se_mod (se_var 4) (se_var 1)) (sa_cons (se_mod (se_fdiv (se_var 4) se_int) (se_var 1)) sa_nil))))
 (ss_one (s1_if (st_w (sw_and (st_lt (se_var 5) (se_var 6)) (sw_and1 (st_notIn (uu1 hr) (se_tup (sa_cons (se_sub (se_var 2) (se_var 5)) (sa_cons (se_sub (se_var 2) (se_var 6)) sa_nil))) (se_var 3)))))
 (ss_one (s1_expr (se_append (se_var 3) (sa_cons (se_tup (sa_cons (se_sub (se_var 2) (se_var 5)) (sa_cons (se_sub (se_var 2) (se_var 6)) sa_nil))) sa_nil))))
 ss_nil))))
 ss_nil)))
 (ss_one (s1_ret (se_sortP G.m_sorted (sa_cons (se_var 3) sa_nil))))))
abbrev s__law_parts : Stmt := top 20
abbrev N__law_parts : List Str := ["script", "picks", "size", "keys", "order", "key", "k", "many", "causes"]
abbrev P__law_parts : List Str := ["script"]
theorem sc__law_parts : FnScope N__law_parts P__law_parts (defScope s__law_parts) := ⟨rfl, rfl, rfl, by decide +kernel, rfl, by decide +kernel, by decide +kernel⟩
def tb__law_parts : DS :=
 (sSeq (sSet 1 (dCall ct__law_row 4 (aCons (dVar 0) (aCons (dC (.int 0)) (aCons (dC (.int 6)) (aCons (dC (.int 1009)) aNil))))))
 (sSeq (sSet 2 (dOp dIx (dLst (aCons (dOp oMod (dOp dIx (dVar 1) (dC (.int 0))) (dC (.int 40))) (aCons (dOp dAdd (dC (.int 2)) (dOp oMod (dOp dIx (dVar 1) (dC (.int 0))) (dC (.int 6)))) (aCons (dOp dIx (dLst (aCons (dC (.int 0)) (aCons (dC (.int 1)) (aCons (dC (.int 39)) (aCons (dC (.int 12)) aNil))))) (dOp oMod (dOp dIx (dVar 1) (dC (.int 0))) (dC (.int 4)))) aNil)))) (dOp oMod (dOp dIx (dVar 1) (dC (.int 1))) (dC (.int 3)))))
 (sSeq (sSet 3 (dCall ct__law_row 4 (aCons (dVar 0) (aCons (dC (.int 1)) (aCons (dVar 2) (aCons (dC (.int 1009)) aNil))))))
 (sSeq (sSet 4 (dLc (iL (dCB nSrtI (aCons (dLc (iR1 (aCons (dVar 2) aNil)) (tgN 6) dYes (dOp dAdd (dOp dMul (dOp dIx (dVar 3) (dVar 6)) (dC (.int 64))) (dVar 6)) [6]) aNil))) (tgN 5) dYes (dOp oMod (dCB nInt (aCons (dVar 5) aNil)) (dC (.int 64))) [5]))
 (sSeq (sSet 7 (dOp dIx (dLst (aCons (dOp oMod (dOp dIx (dVar 1) (dC (.int 2))) (dC (.int 10))) (aCons (dOp oMod (dOp dIx (dVar 1) (dC (.int 2))) (dC (.int 64))) aNil))) (dOp oMod (dOp dIx (dVar 1) (dC (.int 3))) (dC (.int 2)))))
 (sSeq (sSet 8 (dCall ct__law_pairs 3 (aCons (dCall ct__law_row 4 (aCons (dVar 0) (aCons (dC (.int 2)) (aCons (dVar 7) (aCons (dC (.int 1600)) aNil))))) (aCons (dVar 2) (aCons (dVar 4) aNil)))))
 (sSeq (sSet 7 (dOp dIx (dLst (aCons (dOp oMod (dOp dIx (dVar 1) (dC (.int 4))) (dC (.int 6))) (aCons (dOp oMod (dOp dIx (dVar 1) (dC (.int 4))) (dC (.int 64))) (aCons (dOp oMod (dOp dIx (dVar 1) (dC (.int 4))) (dC (.int 20))) aNil)))) (dOp oMod (dOp dIx (dVar 1) (dC (.int 5))) (dC (.int 3)))))
 (sRet (dLst (aCons (dVar 2) (aCons (dVar 8) (aCons (dCall ct__law_pairs 3 (aCons (dCall ct__law_row 4 (aCons (dVar 0) (aCons (dC (.int 3)) (aCons (dVar 7) (aCons (dC (.int 1600)) aNil))))) (aCons (dVar 2) (aCons (dLc (iR1 (aCons (dVar 2) aNil)) (tgN 6) dYes (dVar 6) [6]) aNil)))) aNil))))))))))))
theorem bd__law_parts {P : Program} {w : World} {K : PySem.W.Frag} {mg : Str → Option Value} {base : Heap} (G : Gm K mg) (F__law_pairs : FnC P w K mg base 1 "_law_pairs" 3 ct__law_pairs) (F__law_row : FnC P w K mg base 2 "_law_row" 4 ct__law_row) : BodyC P w K mg base N__law_parts "_law_parts" (defScope s__law_parts) (defBody s__law_parts) 2 tb__law_parts :=
 fun f cd A outer s H E hr tk hp =>
 (ss_cons (s1_set 1 sc__law_parts.nd (se_call F__law_row tk (hr.mono (by decide)) (sa_cons (se_var 0) (sa_cons se_int (sa_cons se_int (sa_cons se_int sa_nil))))))
 (ss_cons (s1_set 2 sc__law_parts.nd (se_sub (se_lst (sa_cons (se_mod (se_sub (se_var 1) se_int) se_int) (sa_cons (se_add se_int (se_mod (se_sub (se_var 1) se_int) se_int)) (sa_cons (se_sub (se_lst (sa_cons se_int (sa_cons se_int (sa_cons se_int (sa_cons se_int sa_nil))))) (se_mod (se_sub (se_var 1) se_int) se_int)) sa_nil)))) (se_mod (se_sub (se_var 1) se_int) se_int)))
 (ss_cons (s1_set 3 sc__law_parts.nd (se_call F__law_row tk (hr.mono (by decide)) (sa_cons (se_var 0) (sa_cons se_int (sa_cons (se_var 2) (sa_cons se_int sa_nil))))))
 (ss_cons (s1_setLc 4 (own := [("key", 5)]) rfl sc__law_parts.nd (si_list (se_sortI G.m_sorted (sa_cons (se_lc (own := [("k", 6)]) rfl sc__law_parts.nd (si_range1 G.m_range (sa_cons (se_var 2) sa_nil)) (by show BlkOk N__law_parts (defScope s__law_parts) _ [("k", 6)]; exact ⟨rfl, by decide +kernel, by decide +kernel, by decide +kernel, by decide +kernel⟩) (fun _ _ _ _ _ => (sg_name sc__law_parts.nd)) (fun _ _ _ _ _ => sp_nil) (fun _ _ _ _ _ => (se_add (se_mul (se_sub (se_var 3) (se_var 6)) se_int) (se_var 6)))) sa_nil))) (by show BlkOk N__law_parts (defScope s__law_parts) _ [("key", 5)]; exact ⟨rfl, by decide +kernel, by decide +kernel, by decide +kernel, by decide +kernel⟩) (fun _ _ _ _ _ => (sg_name sc__law_parts.nd)) (fun _ _ _ _ _ => sp_nil) (fun _ _ _ _ _ => (se_mod (se_intc G.m_int (sa_cons (se_var 5) sa_nil)) se_int)))
 (ss_cons (s1_set 7 sc__law_parts.nd (se_sub (se_lst (sa_cons (se_mod (se_sub (se_var 1) se_int) se_int) (sa_cons (se_mod (se_sub (se_var 1) se_int) se_int) sa_nil))) (se_mod (se_sub (se_var 1) se_int) se_int)))
 (ss_cons (s1_set 8 sc__law_parts.nd (se_call F__law_pairs tk (hr.mono (by decide)) (sa_cons (se_call F__law_row tk (hr.mono (by decide)) (sa_cons (se_var 0) (sa_cons se_int (sa_cons (se_var 7) (sa_cons se_int sa_nil))))) (sa_cons (se_var 2) (sa_cons (se_var 4) sa_nil)))))
 (ss_cons (s1_set 7 sc__law_parts.nd (se_sub (se_lst (sa_cons (se_mod (se_sub (se_var 1) se_int) se_int) (sa_cons (se_mod (se_sub (se_var 1) se_int) se_int) (sa_cons (se_mod (se_sub (se_var 1) se_int) se_int) sa_nil)))) (se_mod (se_sub (se_var 1) se_int) se_int)))
 (ss_one (s1_ret (se_lst (sa_cons (se_var 2) (sa_cons (se_var 8) (sa_cons (se_call F__law_pairs tk (hr.mono (by decide)) (sa_cons (se_call F__law_row tk (hr.mono (by decide)) (sa_cons (se_var 0) (sa_cons se_int (sa_cons (se_var 7) (sa_cons se_int sa_nil))))) (sa_cons (se_var 2) (sa_cons (se_lc (own := [("k", 6)]) rfl sc__law_parts.nd (si_range1 G.m_range (sa_cons (se_var 2) sa_nil)) (by show BlkOk N__law_parts (defScope s__law_parts) _ [("k", 6)]; exact ⟨rfl, by decide +kernel, by decide +kernel, by decide +kernel, by decide +kernel⟩) (fun _ _ _ _ _ => (sg_name sc__law_parts.nd)) (fun _ _ _ _ _ => sp_nil) (fun _ _ _ _ _ => (se_var 6))) sa_nil)))) sa_nil)))))))))))))
abbrev s__law_due : Stmt := top 21
abbrev N__law_due : List Str := ["size", "causes", "conflicts", "value", "k", "seen", "pair"]
abbrev P__law_due : List Str := ["size", "causes", "conflicts", "value"]
theorem sc__law_due : FnScope N__law_due P__law_due (defScope s__law_due) := ⟨rfl, rfl, rfl, by decide +kernel, rfl, by decide +kernel, by decide +kernel⟩
def tb__law_due : DS :=
 (sSeq (sIf (dNot (dTru (dCB (nIsi kcs) (aCons (dVar 3) (aCons (dC (.ty "tuple")) aNil)))))
 (sRet (dC (.bl false)))
 sNil)
 (sSeq (sFor (iR1 (aCons (dCB nLen (aCons (dVar 3) aNil)) aNil)) (tgN 4)
 (sSeq (sIf (dOr (dTru (dCB (nIsi kcs) (aCons (dOp dIx (dVar 3) (dVar 4)) (aCons (dC (.ty "bool")) aNil)))) (dNot (dTru (dCB (nIsi kcs) (aCons (dOp dIx (dVar 3) (dVar 4)) (aCons (dC (.ty "int")) aNil))))))
 (sRet (dC (.bl false)))
 sNil)
 (sIf (dOr (dTst (dOp oLt (dOp dIx (dVar 3) (dVar 4)) (dC (.int 0)))) (dOr (dTst (dOp oGe (dOp dIx (dVar 3) (dVar 4)) (dVar 0))) (dAnd (dTst (dOp oGt (dVar 4) (dC (.int 0)))) (dTst (dOp oGe (dOp dIx (dVar 3) (dOp oSub (dVar 4) (dC (.int 1)))) (dOp dIx (dVar 3) (dVar 4)))))))
 (sRet (dC (.bl false)))
 sNil)))
 (sSeq (sSet 5 (dOp dMulH (dLst (aCons (dC (.bl false)) aNil)) (dVar 0)))
 (sSeq (sFor (iT (dVar 3)) (tgN 4)
 (sAsg (dC (.bl true)) (tgSub (dVar 5) (dVar 4))))
 (sSeq (sFor (iL (dVar 1)) (tgN 6)
 (sIf (dAnd (dTru (dOp dIx (dVar 5) (dOp dIx (dVar 6) (dC (.int 1))))) (dNot (dTru (dOp dIx (dVar 5) (dOp dIx (dVar 6) (dC (.int 0)))))))
 (sRet (dC (.bl false)))
 sNil))
 (sSeq (sFor (iL (dVar 2)) (tgN 6)
 (sIf (dAnd (dTru (dOp dIx (dVar 5) (dOp dIx (dVar 6) (dC (.int 0))))) (dTru (dOp dIx (dVar 5) (dOp dIx (dVar 6) (dC (.int 1))))))
 (sRet (dC (.bl false)))
 sNil))
 (sRet (dC (.bl true)))))))))
theorem bd__law_due {P : Program} {w : World} {K : PySem.W.Frag} {mg : Str → Option Value} {base : Heap} (G : Gm K mg)  : BodyC P w K mg base N__law_due "_law_due" (defScope s__law_due) (defBody s__law_due) 0 tb__law_due :=
 fun f cd A outer s H E hr tk hp =>
 (ss_cons (s1_if (st_not (st_tru (se_isi G.kit G.m_isinstance (sa_cons (se_var 3) (sa_cons (se_ty rfl G.m_tuple (by decide +kernel)) sa_nil)))))
 (ss_one (s1_ret se_bl))
 ss_nil)
 (ss_cons (s1_for hp rfl (si_range1 G.m_range (sa_cons (se_len G.m_len (sa_cons (se_var 3) sa_nil)) sa_nil)) (sg_name sc__law_due.nd)
 (ss_cons (s1_if (st_w (sw_or (st_tru (se_isi G.kit G.m_isinstance (sa_cons (se_sub (se_var 3) (se_var 4)) (sa_cons (se_ty rfl G.m_bool (by decide +kernel)) sa_nil)))) (sw_or1 (st_not (st_tru (se_isi G.kit G.m_isinstance (sa_cons (se_sub (se_var 3) (se_var 4)) (sa_cons (se_ty rfl G.m_int (by decide +kernel)) sa_nil))))))))
 (ss_one (s1_ret se_bl))
 ss_nil)
 (ss_one (s1_if (st_w (sw_or (st_lt (se_sub (se_var 3) (se_var 4)) se_int) (sw_or (st_ge (se_sub (se_var 3) (se_var 4)) (se_var 0)) (sw_or1 (st_w (sw_and (st_gt (se_var 4) se_int) (sw_and1 (st_ge (se_sub (se_var 3) (se_sub2 (se_var 4) se_int)) (se_sub (se_var 3) (se_var 4))))))))))
 (ss_one (s1_ret se_bl))
 ss_nil))))
 (ss_cons (s1_set 5 sc__law_due.nd (se_mulH (se_lst (sa_cons se_bl sa_nil)) (se_var 0)))
 (ss_cons (s1_for hp rfl (si_tup (se_var 3)) (sg_name sc__law_due.nd)
 (ss_one (s1_asg se_bl (sg_sub (se_var 5) (se_var 4)))))
 (ss_cons (s1_for hp rfl (si_list (se_var 1)) (sg_name sc__law_due.nd)
 (ss_one (s1_if (st_w (sw_and (st_tru (se_sub (se_var 5) (se_sub (se_var 6) se_int))) (sw_and1 (st_not (st_tru (se_sub (se_var 5) (se_sub (se_var 6) se_int)))))))
 (ss_one (s1_ret se_bl))
 ss_nil)))
 (ss_cons (s1_for hp rfl (si_list (se_var 2)) (sg_name sc__law_due.nd)
 (ss_one (s1_if (st_w (sw_and (st_tru (se_sub (se_var 5) (se_sub (se_var 6) se_int))) (sw_and1 (st_tru (se_sub (se_var 5) (se_sub (se_var 6) se_int))))))
 (ss_one (s1_ret se_bl))
 ss_nil)))
 (ss_one (s1_ret se_bl))))))))
abbrev s__law_needs : Stmt := top 22
abbrev N__law_needs : List Str := ["size", "causes", "needs", "k", "turn", "again", "pair", "wide"]
abbrev P__law_needs : List Str := ["size", "causes"]
theorem sc__law_needs : FnScope N__law_needs P__law_needs (defScope s__law_needs) := ⟨rfl, rfl, rfl, by decide +kernel, rfl, by decide +kernel, by decide +kernel⟩
def tb__law_needs : DS :=
 (sSeq (sSet 2 (dLcH (iR1 (aCons (dVar 0) aNil)) (tgN 3) dYes (dOp oShl (dC (.int 1)) (dVar 3)) [3]))
 (sSeq (sFor (iR1 (aCons (dVar 0) aNil)) (tgN 4)
 (sSeq (sSet 5 (dC (.bl false)))
 (sSeq (sFor (iL (dVar 1)) (tgN 6)
 (sSeq (sSet 7 (dOp oOr (dOp dIx (dVar 2) (dOp dIx (dVar 6) (dC (.int 1)))) (dOp dIx (dVar 2) (dOp dIx (dVar 6) (dC (.int 0))))))
 (sIf (dTst (dOp dNe (dVar 7) (dOp dIx (dVar 2) (dOp dIx (dVar 6) (dC (.int 1))))))
 (sSeq (sAsg (dVar 7) (tgSub (dVar 2) (dOp dIx (dVar 6) (dC (.int 1)))))
 (sSet 5 (dC (.bl true))))
 sNil)))
 (sIf (dNot (dTru (dVar 5)))
 (sRet (dVar 2))
 sNil))))
 (sRet (dVar 2))))
theorem bd__law_needs {P : Program} {w : World} {K : PySem.W.Frag} {mg : Str → Option Value} {base : Heap} (G : Gm K mg)  : BodyC P w K mg base N__law_needs "_law_needs" (defScope s__law_needs) (defBody s__law_needs) 0 tb__law_needs :=
 fun f cd A outer s H E hr tk hp =>
 (ss_cons (s1_setLcH 2 (own := [("k", 3)]) rfl sc__law_needs.nd (si_range1 G.m_range (sa_cons (se_var 0) sa_nil)) (by show BlkOk N__law_needs (defScope s__law_needs) _ [("k", 3)]; exact ⟨rfl, by decide +kernel, by decide +kernel, by decide +kernel, by decide +kernel⟩) (fun _ _ _ _ _ => (sg_name sc__law_needs.nd)) (fun _ _ _ _ _ => sp_nil) (fun _ _ _ _ _ => (se_shl se_int (se_var 3))))
 (ss_cons (s1_for hp rfl (si_range1 G.m_range (sa_cons (se_var 0) sa_nil)) (sg_name sc__law_needs.nd)
 (ss_cons (s1_set 5 sc__law_needs.nd se_bl)
 (ss_cons (s1_for hp rfl (si_list (se_var 1)) (sg_name sc__law_needs.nd)
 (ss_cons (s1_set 7 sc__law_needs.nd (se_bor (se_sub (se_var 2) (se_sub (se_var 6) se_int)) (se_sub (se_var 2) (se_sub (se_var 6) se_int))))
 (ss_one (s1_if (st_ne (uu hr) (se_var 7) (se_sub (se_var 2) (se_sub (se_var 6) se_int)))
 (ss_cons (s1_asg (se_var 7) (sg_sub (se_var 2) (se_sub (se_var 6) se_int)))
 (ss_one (s1_set 5 sc__law_needs.nd se_bl)))
 ss_nil))))
 (ss_one (s1_if (st_not (st_tru (se_var 5)))
 (ss_one (s1_ret (se_var 2)))
 ss_nil)))))
 (ss_one (s1_ret (se_var 2)))))
abbrev s__law_in : Stmt := top 23
abbrev N__law_in : List Str := ["size", "mark", "k"]
abbrev P__law_in : List Str := ["size", "mark"]
theorem sc__law_in : FnScope N__law_in P__law_in (defScope s__law_in) := ⟨rfl, rfl, rfl, by decide +kernel, rfl, by decide +kernel, by decide +kernel⟩
def tb__law_in : DS :=
 (sRet (dCB nTup (aCons (dLc (iR1 (aCons (dVar 0) aNil)) (tgN 2) (dTst (dOp dEq (dOp oAnd (dOp oShr (dVar 1) (dVar 2)) (dC (.int 1))) (dC (.int 1)))) (dVar 2) [2]) aNil)))
theorem bd__law_in {P : Program} {w : World} {K : PySem.W.Frag} {mg : Str → Option Value} {base : Heap} (G : Gm K mg)  : BodyC P w K mg base N__law_in "_law_in" (defScope s__law_in) (defBody s__law_in) 0 tb__law_in :=
 fun f cd A outer s H E hr tk hp =>
 (ss_one (s1_ret (se_tuple G.m_tuple (sa_cons (se_lc (own := [("k", 2)]) rfl sc__law_in.nd (si_range1 G.m_range (sa_cons (se_var 0) sa_nil)) (by show BlkOk N__law_in (defScope s__law_in) _ [("k", 2)]; exact ⟨rfl, by decide +kernel, by decide +kernel, by decide +kernel, by decide +kernel⟩) (fun _ _ _ _ _ => (sg_name sc__law_in.nd)) (fun _ _ _ _ _ => (sp_one (st_eq (uu hr) (se_band (se_shr (se_var 1) (se_var 2)) se_int) se_int))) (fun _ _ _ _ _ => (se_var 2))) sa_nil))))
abbrev s__law_state : Stmt := top 24
abbrev N__law_state : List Str := ["size", "causes", "conflicts", "draws", "needs", "mark", "draw", "wide", "good", "pair"]
abbrev P__law_state : List Str := ["size", "causes", "conflicts", "draws"]
theorem sc__law_state : FnScope N__law_state P__law_state (defScope s__law_state) := ⟨rfl, rfl, rfl, by decide +kernel, rfl, by decide +kernel, by decide +kernel⟩
def tb__law_state : DS :=
 (sSeq (sSet 4 (dCall ct__law_needs 2 (aCons (dVar 0) (aCons (dVar 1) aNil))))
 (sSeq (sSet 5 (dC (.int 0)))
 (sSeq (sFor (iL (dVar 3)) (tgN 6)
 (sIf (dTst (dOp oGt (dVar 0) (dC (.int 0))))
 (sSeq (sSet 7 (dOp oOr (dVar 5) (dOp dIx (dVar 4) (dOp oMod (dVar 6) (dVar 0)))))
 (sSeq (sSet 8 (dC (.bl true)))
 (sSeq (sFor (iL (dVar 2)) (tgN 9)
 (sIf (dAnd (dTst (dOp dEq (dOp oAnd (dOp oShr (dVar 7) (dOp dIx (dVar 9) (dC (.int 0)))) (dC (.int 1))) (dC (.int 1)))) (dTst (dOp dEq (dOp oAnd (dOp oShr (dVar 7) (dOp dIx (dVar 9) (dC (.int 1)))) (dC (.int 1))) (dC (.int 1)))))
 (sSet 8 (dC (.bl false)))
 sNil))
 (sIf (dTru (dVar 8))
 (sSet 5 (dVar 7))
 sNil))))
 sNil))
 (sRet (dVar 5)))))
theorem bd__law_state {P : Program} {w : World} {K : PySem.W.Frag} {mg : Str → Option Value} {base : Heap} (G : Gm K mg) (F__law_needs : FnC P w K mg base 1 "_law_needs" 2 ct__law_needs) : BodyC P w K mg base N__law_state "_law_state" (defScope s__law_state) (defBody s__law_state) 1 tb__law_state :=
 fun f cd A outer s H E hr tk hp =>
 (ss_cons (s1_set 4 sc__law_state.nd (se_call F__law_needs tk (hr.mono (by decide)) (sa_cons (se_var 0) (sa_cons (se_var 1) sa_nil))))
 (ss_cons (s1_set 5 sc__law_state.nd se_int)
 (ss_cons (s1_for hp rfl (si_list (se_var 3)) (sg_name sc__law_state.nd)
 (ss_one (s1_if (st_gt (se_var 0) se_int)
 (ss_cons (s1_set 7 sc__law_state.nd (se_bor (se_var 5) (se_sub (se_var 4) (se_mod (se_var 6) (se_var 0)))))
 (ss_cons (s1_set 8 sc__law_state.nd se_bl)
 (ss_cons (s1_for hp rfl (si_list (se_var 2)) (sg_name sc__law_state.nd)
 (ss_one (s1_if (st_w (sw_and (st_eq (uu hr) (se_band (se_shr (se_var 7) (se_sub (se_var 9) se_int)) se_int) se_int) (sw_and1 (st_eq (uu hr) (se_band (se_shr (se_var 7) (se_sub (se_var 9) se_int)) se_int) se_int))))
 (ss_one (s1_set 8 sc__law_state.nd se_bl))
 ss_nil)))
 (ss_one (s1_if (st_tru (se_var 8))
 (ss_one (s1_set 5 sc__law_state.nd (se_var 7)))
 ss_nil)))))
 ss_nil)))
 (ss_one (s1_ret (se_var 5))))))
abbrev s__law_values : Stmt := top 25
abbrev N__law_values : List Str := ["size", "conflicts", "mark", "draws", "state", "found", "k", "pair", "at", "near", "other"]
abbrev P__law_values : List Str := ["size", "conflicts", "mark", "draws"]
theorem sc__law_values : FnScope N__law_values P__law_values (defScope s__law_values) := ⟨rfl, rfl, rfl, by decide +kernel, rfl, by decide +kernel, by decide +kernel⟩
def tb__law_values : DS :=
 (sSeq (sSet 4 (dCall ct__law_in 2 (aCons (dVar 0) (aCons (dVar 2) aNil))))
 (sSeq (sSet 5 (dLstH (aCons (dVar 4) (aCons (dTup aNil) (aCons (dCB nTup (aCons (dLc (iR1 (aCons (dVar 0) aNil)) (tgN 6) dYes (dVar 6) [6]) aNil)) (aCons (dCB nLst (aCons (dVar 4) aNil)) (aCons (dTupRev (dVar 4)) (aCons (dTup (aCons (dVar 4) aNil)) (aCons (dC .non) (aCons (dC (.int 0)) (aCons (dC (.str "")) aNil)))))))))))
 (sSeq (sExpr (dBM "list" mApp (dVar 5) (aCons (dC (.bl true)) aNil)))
 (sSeq (sFor (iR1 (aCons (dVar 0) aNil)) (tgN 6)
 (sExpr (dBM "list" mApp (dVar 5) (aCons (dCall ct__law_in 2 (aCons (dVar 0) (aCons (dOp oXor (dVar 2) (dOp oShl (dC (.int 1)) (dVar 6))) aNil))) aNil))))
 (sSeq (sSet 5 (dOp dAddH (dVar 5) (dLst (aCons (dOp dAdd (dVar 4) (dTup (aCons (dVar 0) aNil))) (aCons (dOp dAdd (dTup (aCons (dNeg (dC (.int 1))) aNil)) (dVar 4)) (aCons (dOp dAdd (dVar 4) (dTup (aCons (dC .non) aNil))) (aCons (dOp dAdd (dVar 4) (dTup (aCons (dC (.str "0")) aNil))) (aCons (dTup (aCons (dC (.int 0)) (aCons (dC (.int 0)) aNil))) (aCons (dC (.str "0")) (aCons (dLst aNil) (aCons (dTup (aCons (dC (.bl false)) aNil)) (aCons (dTup (aCons (dC (.int 0)) aNil)) aNil))))))))))))
 (sSeq (sFor (iL (dSl (dVar 1) oNon (oSome (dC (.int 5))))) (tgN 7)
 (sSeq (sExpr (dBM "list" mApp (dVar 5) (aCons (dCall ct__law_in 2 (aCons (dVar 0) (aCons (dOp oOr (dOp oOr (dVar 2) (dOp oShl (dC (.int 1)) (dOp dIx (dVar 7) (dC (.int 0))))) (dOp oShl (dC (.int 1)) (dOp dIx (dVar 7) (dC (.int 1))))) aNil))) aNil)))
 (sExpr (dBM "list" mApp (dVar 5) (aCons (dTup (aCons (dOp dIx (dVar 7) (dC (.int 0))) (aCons (dOp dIx (dVar 7) (dC (.int 1))) aNil))) aNil)))))
 (sSeq (sIf (dTst (dOp oGt (dCB nLen (aCons (dVar 4) aNil)) (dC (.int 0))))
 (sSeq (sSet 8 (dOp oMod (dOp dIx (dVar 3) (dC (.int 0))) (dCB nLen (aCons (dVar 4) aNil))))
 (sSeq (sSet 9 (dOp oMod (dOp dIx (dVar 3) (dC (.int 1))) (dCB nLen (aCons (dVar 4) aNil))))
 (sSeq (sSet 10 (dCB nLstH (aCons (dVar 4) aNil)))
 (sSeq (sAsg (dOp dIx (dVar 4) (dVar 9)) (tgSub (dVar 10) (dVar 8)))
 (sSeq (sAsg (dOp dIx (dVar 4) (dVar 8)) (tgSub (dVar 10) (dVar 9)))
 (sSeq (sExpr (dBM "list" mApp (dVar 5) (aCons (dCB nTup (aCons (dVar 10) aNil)) aNil)))
 (sSeq (sExpr (dBM "list" mApp (dVar 5) (aCons (dOp dAdd (dOp dAdd (dSl (dVar 4) oNon (oSome (dVar 8))) (dTup (aCons (dOp dIx (dVar 4) (dVar 8)) aNil))) (dSl (dVar 4) (oSome (dVar 8)) oNon)) aNil)))
 (sSeq (sExpr (dBM "list" mApp (dVar 5) (aCons (dOp dAdd (dOp dAdd (dSl (dVar 4) oNon (oSome (dVar 8))) (dTup (aCons (dSl (dVar 4) (oSome (dVar 8)) (oSome (dOp dAdd (dVar 8) (dC (.int 1))))) aNil))) (dSl (dVar 4) (oSome (dOp dAdd (dVar 8) (dC (.int 1)))) oNon)) aNil)))
 (sSeq (sIf (dTst (dOp oLt (dOp dIx (dVar 4) (dC (.int 0))) (dC (.int 2))))
 (sExpr (dBM "list" mApp (dVar 5) (aCons (dOp dAdd (dTup (aCons (dOp dEq (dOp dIx (dVar 4) (dC (.int 0))) (dC (.int 1))) aNil)) (dSl (dVar 4) (oSome (dC (.int 1))) oNon)) aNil)))
 sNil)
 (sIf (dTst (dOp (dInT false) (dC (.int 1)) (dVar 4)))
 (sExpr (dBM "list" mApp (dVar 5) (aCons (dCB nTup (aCons (dLc (iT (dVar 4)) (tgN 6) dYes (dOp dIx (dLst (aCons (dVar 6) (aCons (dC (.bl true)) aNil))) (dCB nInt (aCons (dOp dEq (dVar 6) (dC (.int 1))) aNil))) [6]) aNil)) aNil)))
 sNil))))))))))
 sNil)
 (sRet (dVar 5)))))))))
theorem bd__law_values {P : Program} {w : World} {K : PySem.W.Frag} {mg : Str → Option Value} {base : Heap} (G : Gm K mg) (F__law_in : FnC P w K mg base 1 "_law_in" 2 ct__law_in) : BodyC P w K mg base N__law_values "_law_values" (defScope s__law_values) (defBody s__law_values) 1 tb__law_values :=
 fun f cd A outer s H E hr tk hp =>
 (ss_cons (s1_set 4 sc__law_values.nd (se_call F__law_in tk (hr.mono (by decide)) (sa_cons (se_var 0) (sa_cons (se_var 2) sa_nil))))
 (ss_cons (s1_set 5 sc__law_values.nd (se_lstH (sa_cons (se_var 4) (sa_cons (se_tup sa_nil) (sa_cons (se_tuple G.m_tuple (sa_cons (se_lc (own := [("k", 6)]) rfl sc__law_values.nd (si_range1 G.m_range (sa_cons (se_var 0) sa_nil)) (by show BlkOk N__law_values (defScope s__law_values) _ [("k", 6)]; exact ⟨rfl, by decide +kernel, by decide +kernel, by decide +kernel, by decide +kernel⟩) (fun _ _ _ _ _ => (sg_name sc__law_values.nd)) (fun _ _ _ _ _ => sp_nil) (fun _ _ _ _ _ => (se_var 6))) sa_nil)) (sa_cons (se_list G.m_list (sa_cons (se_var 4) sa_nil)) (sa_cons (se_tupRev rfl G.m_tuple G.m_reversed (se_var 4)) (sa_cons (se_tup (sa_cons (se_var 4) sa_nil)) (sa_cons se_non (sa_cons se_int (sa_cons se_str sa_nil)))))))))))
 (ss_cons (s1_expr (se_append (se_var 5) (sa_cons se_bl sa_nil)))
 (ss_cons (s1_for hp rfl (si_range1 G.m_range (sa_cons (se_var 0) sa_nil)) (sg_name sc__law_values.nd)
 (ss_one (s1_expr (se_append (se_var 5) (sa_cons (se_call F__law_in tk (hr.mono (by decide)) (sa_cons (se_var 0) (sa_cons (se_bxor (se_var 2) (se_shl se_int (se_var 6))) sa_nil))) sa_nil)))))
 (ss_cons (s1_set 5 sc__law_values.nd (se_addH (se_var 5) (se_lst (sa_cons (se_add (se_var 4) (se_tup (sa_cons (se_var 0) sa_nil))) (sa_cons (se_add (se_tup (sa_cons (se_neg se_int) sa_nil)) (se_var 4)) (sa_cons (se_add (se_var 4) (se_tup (sa_cons se_non sa_nil))) (sa_cons (se_add (se_var 4) (se_tup (sa_cons se_str sa_nil))) (sa_cons (se_tup (sa_cons se_int (sa_cons se_int sa_nil))) (sa_cons se_str (sa_cons (se_lst sa_nil) (sa_cons (se_tup (sa_cons se_bl sa_nil)) (sa_cons (se_tup (sa_cons se_int sa_nil)) sa_nil))))))))))))
 (ss_cons (s1_for hp rfl (si_list (se_slice (se_var 1) so_none (so_some se_int))) (sg_name sc__law_values.nd)
 (ss_cons (s1_expr (se_append (se_var 5) (sa_cons (se_call F__law_in tk (hr.mono (by decide)) (sa_cons (se_var 0) (sa_cons (se_bor (se_bor (se_var 2) (se_shl se_int (se_sub (se_var 7) se_int))) (se_shl se_int (se_sub (se_var 7) se_int))) sa_nil))) sa_nil)))
 (ss_one (s1_expr (se_append (se_var 5) (sa_cons (se_tup (sa_cons (se_sub (se_var 7) se_int) (sa_cons (se_sub (se_var 7) se_int) sa_nil))) sa_nil))))))
 (ss_cons (s1_if (st_gt (se_len G.m_len (sa_cons (se_var 4) sa_nil)) se_int)
 (ss_cons (s1_set 8 sc__law_values.nd (se_mod (se_sub (se_var 3) se_int) (se_len G.m_len (sa_cons (se_var 4) sa_nil))))
 (ss_cons (s1_set 9 sc__law_values.nd (se_mod (se_sub (se_var 3) se_int) (se_len G.m_len (sa_cons (se_var 4) sa_nil))))
 (ss_cons (s1_set 10 sc__law_values.nd (se_listH G.m_list (sa_cons (se_var 4) sa_nil)))
 (ss_cons (s1_asg (se_sub (se_var 4) (se_var 9)) (sg_sub (se_var 10) (se_var 8)))
 (ss_cons (s1_asg (se_sub (se_var 4) (se_var 8)) (sg_sub (se_var 10) (se_var 9)))
 (ss_cons (s1_expr (se_append (se_var 5) (sa_cons (se_tuple G.m_tuple (sa_cons (se_var 10) sa_nil)) sa_nil)))
 (ss_cons (s1_expr (se_append (se_var 5) (sa_cons (se_add (se_add (se_slice (se_var 4) so_none (so_some (se_var 8))) (se_tup (sa_cons (se_sub (se_var 4) (se_var 8)) sa_nil))) (se_slice (se_var 4) (so_some (se_var 8)) so_none)) sa_nil)))
 (ss_cons (s1_expr (se_append (se_var 5) (sa_cons (se_add (se_add (se_slice (se_var 4) so_none (so_some (se_var 8))) (se_tup (sa_cons (se_slice (se_var 4) (so_some (se_var 8)) (so_some (se_add (se_var 8) se_int))) sa_nil))) (se_slice (se_var 4) (so_some (se_add (se_var 8) se_int)) so_none)) sa_nil)))
 (ss_cons (s1_if (st_lt (se_sub (se_var 4) se_int) se_int)
 (ss_one (s1_expr (se_append (se_var 5) (sa_cons (se_add (se_tup (sa_cons (se_eq (uu hr) (se_sub (se_var 4) se_int) se_int) sa_nil)) (se_slice (se_var 4) (so_some se_int) so_none)) sa_nil))))
 ss_nil)
 (ss_one (s1_if (st_inT se_int (se_var 4))
 (ss_one (s1_expr (se_append (se_var 5) (sa_cons (se_tuple G.m_tuple (sa_cons (se_lc (own := [("k", 6)]) rfl sc__law_values.nd (si_tup (se_var 4)) (by show BlkOk N__law_values (defScope s__law_values) _ [("k", 6)]; exact ⟨rfl, by decide +kernel, by decide +kernel, by decide +kernel, by decide +kernel⟩) (fun _ _ _ _ _ => (sg_name sc__law_values.nd)) (fun _ _ _ _ _ => sp_nil) (fun _ _ _ _ _ => (se_sub (se_lst (sa_cons (se_var 6) (sa_cons se_bl sa_nil))) (se_intc G.m_int (sa_cons (se_eq (uu hr) (se_var 6) se_int) sa_nil))))) sa_nil)) sa_nil))))
 ss_nil)))))))))))
 ss_nil)
 (ss_one (s1_ret (se_var 5))))))))))
abbrev s__law_asked : Stmt := top 26
abbrev N__law_asked : List Str := ["script", "size", "causes", "conflicts", "draws", "mark", "rule", "values", "turn", "value", "told"]
abbrev P__law_asked : List Str := ["script"]
theorem sc__law_asked : FnScope N__law_asked P__law_asked (defScope s__law_asked) := ⟨rfl, rfl, rfl, by decide +kernel, rfl, by decide +kernel, by decide +kernel⟩
def tb__law_asked : DS :=
 (sSeq (sAsg (dCall ct__law_parts 1 (aCons (dVar 0) aNil)) (tgLst 3 (tgsCons (tgN 1) (tgsCons (tgN 2) (tgsCons (tgN 3) tgsNil)))))
 (sSeq (sSet 4 (dCall ct__law_row 4 (aCons (dVar 0) (aCons (dC (.int 4)) (aCons (dC (.int 14)) (aCons (dC (.int 1009)) aNil))))))
 (sSeq (sSet 5 (dCall ct__law_state 4 (aCons (dVar 1) (aCons (dVar 2) (aCons (dVar 3) (aCons (dSl (dVar 4) (oSome (dC (.int 2))) (oSome (dOp dAdd (dC (.int 2)) (dOp oMod (dOp dIx (dVar 4) (dC (.int 1))) (dC (.int 13)))))) aNil))))))
 (sSeq (sSet 6 (dMake "Events" ct_Events_init 4 (aCons (dVar 1) (aCons (dCB nLst (aCons (dVar 2) aNil)) (aCons (dCB nLst (aCons (dVar 3) aNil)) aNil)))))
 (sSeq (sSet 7 (dCall ct__law_values 4 (aCons (dVar 1) (aCons (dVar 3) (aCons (dVar 5) (aCons (dVar 4) aNil))))))
 (sSeq (sFor (iR1 (aCons (dC (.int 2)) aNil)) (tgN 8)
 (sFor (iL (dVar 7)) (tgN 9)
 (sSeq (sIf (dTst (dOp dEq (dVar 8) (dC (.int 0))))
 (sSet 10 (dCall ct_is_state 2 (aCons (dVar 6) (aCons (dVar 9) aNil))))
 (sSet 10 (dCallK ct_is_state 2 2 [1, 0] (aCons (dVar 9) (aCons (dVar 6) aNil)))))
 (sIf (dOr (dNot (dTru (dCB (nIsi kcs) (aCons (dVar 10) (aCons (dC (.ty "bool")) aNil))))) (dTst (dOp dNe (dVar 10) (dCall ct__law_due 4 (aCons (dVar 1) (aCons (dVar 2) (aCons (dVar 3) (aCons (dVar 9) aNil))))))))
 (sRet (dC (.bl false)))
 sNil))))
 (sSeq (sIf (dOr (dNot (dTru (dCB (nIsi kcs) (aCons (dFldC fc_causes "causes" (dVar 6)) (aCons (dC (.ty "tuple")) aNil))))) (dOr (dNot (dTru (dCB (nIsi kcs) (aCons (dFldC fc_conflicts "conflicts" (dVar 6)) (aCons (dC (.ty "tuple")) aNil))))) (dTst (dOp dNe (dFldC fc_many "many" (dVar 6)) (dVar 1)))))
 (sRet (dC (.bl false)))
 sNil)
 (sRet (dAndV (dOp dEq (dFldC fc_causes "causes" (dVar 6)) (dCB nTup (aCons (dVar 2) aNil))) (dOp dEq (dFldC fc_conflicts "conflicts" (dVar 6)) (dCB nTup (aCons (dVar 3) aNil))))))))))))
theorem bd__law_asked {P : Program} {w : World} {K : PySem.W.Frag} {mg : Str → Option Value} {base : Heap} (G : Gm K mg) (M_Events : MkC P w K mg base 5 "Events" 4 ct_Events_init) (F__law_due : FnC P w K mg base 1 "_law_due" 4 ct__law_due) (F__law_parts : FnC P w K mg base 3 "_law_parts" 1 ct__law_parts) (F__law_row : FnC P w K mg base 2 "_law_row" 4 ct__law_row) (F__law_state : FnC P w K mg base 2 "_law_state" 4 ct__law_state) (F__law_values : FnC P w K mg base 2 "_law_values" 4 ct__law_values) (F_is_state : FnC P w K mg base 4 "is_state" 2 ct_is_state) (K_is_state : FnK P w K mg base 4 "is_state" 2 ["value", "events"] [1, 0] ct_is_state) : BodyC P w K mg base N__law_asked "_law_asked" (defScope s__law_asked) (defBody s__law_asked) 6 tb__law_asked :=
 fun f cd A outer s H E hr tk hp =>
 (ss_cons (s1_asg (se_call F__law_parts tk (hr.mono (by decide)) (sa_cons (se_var 0) sa_nil)) (sg_lst rfl (sgs_cons (sg_name sc__law_asked.nd) (sgs_cons (sg_name sc__law_asked.nd) (sgs_cons (sg_name sc__law_asked.nd) (sgs_nil (T := [])))))))
 (ss_cons (s1_set 4 sc__law_asked.nd (se_call F__law_row tk (hr.mono (by decide)) (sa_cons (se_var 0) (sa_cons se_int (sa_cons se_int (sa_cons se_int sa_nil))))))
 (ss_cons (s1_set 5 sc__law_asked.nd (se_call F__law_state tk (hr.mono (by decide)) (sa_cons (se_var 1) (sa_cons (se_var 2) (sa_cons (se_var 3) (sa_cons (se_slice (se_var 4) (so_some se_int) (so_some (se_add se_int (se_mod (se_sub (se_var 4) se_int) se_int)))) sa_nil))))))
 (ss_cons (s1_set 6 sc__law_asked.nd (se_make M_Events tk (hr.mono (by decide)) (sa_cons (se_var 1) (sa_cons (se_list G.m_list (sa_cons (se_var 2) sa_nil)) (sa_cons (se_list G.m_list (sa_cons (se_var 3) sa_nil)) sa_nil)))))
 (ss_cons (s1_set 7 sc__law_asked.nd (se_call F__law_values tk (hr.mono (by decide)) (sa_cons (se_var 1) (sa_cons (se_var 3) (sa_cons (se_var 5) (sa_cons (se_var 4) sa_nil))))))
 (ss_cons (s1_for hp rfl (si_range1 G.m_range (sa_cons se_int sa_nil)) (sg_name sc__law_asked.nd)
 (ss_one (s1_for hp rfl (si_list (se_var 7)) (sg_name sc__law_asked.nd)
 (ss_cons (s1_if (st_eq (uu hr) (se_var 8) se_int)
 (ss_one (s1_set 10 sc__law_asked.nd (se_call F_is_state tk (hr.mono (by decide)) (sa_cons (se_var 6) (sa_cons (se_var 9) sa_nil)))))
 (ss_one (s1_set 10 sc__law_asked.nd (se_callK (ks := ["value", "events"]) K_is_state tk (hr.mono (by decide)) (sk_cons (se_var 9) (sk_cons (se_var 6) sk_nil))))))
 (ss_one (s1_if (st_w (sw_or (st_not (st_tru (se_isi G.kit G.m_isinstance (sa_cons (se_var 10) (sa_cons (se_ty rfl G.m_bool (by decide +kernel)) sa_nil))))) (sw_or1 (st_ne (uu hr) (se_var 10) (se_call F__law_due tk (hr.mono (by decide)) (sa_cons (se_var 1) (sa_cons (se_var 2) (sa_cons (se_var 3) (sa_cons (se_var 9) sa_nil)))))))))
 (ss_one (s1_ret se_bl))
 ss_nil))))))
 (ss_cons (s1_if (st_w (sw_or (st_not (st_tru (se_isi G.kit G.m_isinstance (sa_cons (se_fld (cs := fc_causes) G.f_causes (se_var 6)) (sa_cons (se_ty rfl G.m_tuple (by decide +kernel)) sa_nil))))) (sw_or (st_not (st_tru (se_isi G.kit G.m_isinstance (sa_cons (se_fld (cs := fc_conflicts) G.f_conflicts (se_var 6)) (sa_cons (se_ty rfl G.m_tuple (by decide +kernel)) sa_nil))))) (sw_or1 (st_ne (uu hr) (se_fld (cs := fc_many) G.f_many (se_var 6)) (se_var 1))))))
 (ss_one (s1_ret se_bl))
 ss_nil)
 (ss_one (s1_ret (se_and (se_eq (uu hr) (se_fld (cs := fc_causes) G.f_causes (se_var 6)) (se_tuple G.m_tuple (sa_cons (se_var 2) sa_nil))) (se_one (se_eq (uu hr) (se_fld (cs := fc_conflicts) G.f_conflicts (se_var 6)) (se_tuple G.m_tuple (sa_cons (se_var 3) sa_nil))))))))))))))
abbrev s_law : Stmt := top 27
abbrev N_law : List Str := ["script"]
abbrev P_law : List Str := ["script"]
theorem sc_law : FnScope N_law P_law (defScope s_law) := ⟨rfl, rfl, rfl, by decide +kernel, rfl, by decide +kernel, by decide +kernel⟩
def tb_law : DS :=
 (sNox (sRet (dCall ct__law_asked 1 (aCons (dVar 0) aNil))))
theorem bd_law {P : Program} {w : World} {K : PySem.W.Frag} {mg : Str → Option Value} {base : Heap} (G : Gm K mg) (F__law_asked : FnC P w K mg base 7 "_law_asked" 1 ct__law_asked) : BodyC P w K mg base N_law "law" (defScope s_law) (defBody s_law) 7 tb_law :=
 fun f cd A outer s H E hr tk hp =>
 (ss_one (s1_try0 (ss_one (s1_ret (se_call F__law_asked takes00 (hr.mono (by decide)) (sa_cons (se_var 0) sa_nil))))))

end L2.MW.K47

namespace L2.MW.K47
open PySem PySem.Spec PyProof.Rows L2 L2.MW
def isT (d : D) (n : String) : Bool := match tyD [] d with
  | some (.ty a) => (a == n || (a == "bool" && n == "int"))
  | _ => false
theorem tyD_pl {d : D} (p : plB d = true) (h : DHp) : ∃ a, tyD h d = some (.ty a) ∧ tyD [] d = some (.ty a) ∧ a ∈ tys := by
  cases d <;> first | exact ⟨_, rfl, rfl, by decide⟩ | cases p
theorem isi_eq {d : D} {n : String} {h : DHp} {Q : DK} (p : plB d = true) (hn : n ∈ tys) : nIsi kcs [d, .ty n] h Q ↔ Q (.bl (isT d n)) h := by
  obtain ⟨a, e1, e2, ha⟩ := tyD_pl p h
  have e3 : isT d n = (a == n || (a == "bool" && n == "int")) := by unfold isT; rw [e2]
  have e4 : isaD kcs (.ty a) (.ty n) = some (a == n || (a == "bool" && n == "int")) := if_pos ⟨ha, hn⟩
  constructor
  · rintro ⟨x, c, t, b, e, ht, _, hb, q⟩
    cases e
    rw [e1] at ht
    cases ht
    have hb' : isaD kcs (.ty a) (.ty n) = some b := hb
    rw [e4] at hb'
    cases hb'
    rw [e3]; exact q
  · intro q
    rw [e3] at q
    exact ⟨_, _, _, _, rfl, e1, trivial, e4, q⟩
theorem isi_lt {d : D} {h : DHp} {Q : DK} (p : plB d = true) : nIsi kcs [d, .tup [.ty "list", .ty "tuple"]] h Q ↔ Q (.bl (isT d "list" || isT d "tuple")) h := by
  cases d <;> first
    | cases p; done
    | (constructor
       · rintro ⟨x, c, t, b, e, ht, _, hb, q⟩
         cases e; cases ht; cases hb.2
         exact q
       · intro q
         exact ⟨_, _, _, _, rfl, rfl, trivial, ⟨by intro y hy; simp at hy; rcases hy with rfl | rfl <;> trivial, rfl⟩, q⟩)
theorem isi_i {d : D} {h : DHp} {Q : DK} (p : plB d = true) : nIsi kcs [d, .ty "int"] h Q ↔ Q (.bl (isT d "int")) h := isi_eq p (by decide)
theorem isi_b {d : D} {h : DHp} {Q : DK} (p : plB d = true) : nIsi kcs [d, .ty "bool"] h Q ↔ Q (.bl (isT d "bool")) h := isi_eq p (by decide)
theorem isi_t {d : D} {h : DHp} {Q : DK} (p : plB d = true) : nIsi kcs [d, .ty "tuple"] h Q ↔ Q (.bl (isT d "tuple")) h := isi_eq p (by decide)
theorem isT_tup {d : D} (p : plB d = true) : isT d "tuple" = tupB d := by cases d <;> first | rfl | cases p
theorem rd_is_integer (ds : List D) (h : DHp) (X : DX) (Q : DK) (hn : ds.length = 1) (c : ct_is_integer ds h X Q) : tb_is_integer (endsD h X Q) (startD 1 ds) h := by
  obtain ⟨d, rfl, p, q⟩ := c
  have q' := rt_of (h0 := h) (X := X) q
  simp [tb_is_integer, startD, sSeq, sNil, sIf, sRet, sRetN, sSet, sAsg, sExpr, sNever, sFor, sNox, sBrk, sCont, sFldD, sAug, sAugS, dVar, dC, dOp, dI0, dII, dNeg, dInv, dAndV, dOrV, dNotV, dTst, dTru, dAnd, dOr, dNot, dIfE, dChn, dCall, dCallK, dMake, aNil, aCons, dTup, dLst, dLstH, dFldC, dCB, dBM, tgN, tgSub, iL, iT, iR1, iR2, DEnds.xx, dLc, dLcH, dYes, dSl, oNon, oSome, nI2, nTup, nLst, nLstH, mApp, wipeD, dIn, dIsN, dNotN, dAddH, dMulH, isi_i p, isi_b p]
  cases d <;> first | cases p; done | simp_all [isT, tyD, numB]
theorem rd_is_between (ds : List D) (h : DHp) (X : DX) (Q : DK) (hn : ds.length = 3) (c : ct_is_between ds h X Q) : tb_is_between (endsD h X Q) (startD 3 ds) h := by
  obtain ⟨d, lo, hi, rfl, p, q⟩ := c
  have q' := rt_of (h0 := h) (X := X) q
  simp [tb_is_between, startD, sSeq, sNil, sIf, sRet, sRetN, sSet, sAsg, sExpr, sNever, sFor, sNox, sBrk, sCont, sFldD, sAug, sAugS, dVar, dC, dOp, dI0, dII, dNeg, dInv, dAndV, dOrV, dNotV, dTst, dTru, dAnd, dOr, dNot, dIfE, dChn, dCall, dCallK, dMake, aNil, aCons, dTup, dLst, dLstH, dFldC, dCB, dBM, tgN, tgSub, iL, iT, iR1, iR2, DEnds.xx, dLc, dLcH, dYes, dSl, oNon, oSome, nI2, nTup, nLst, nLstH, mApp, wipeD, dIn, dIsN, dNotN, dAddH, dMulH, ct_is_integer, p]
  cases d with
  | int i =>
    simp [numB, btw] at q' ⊢
    by_cases h1 : lo ≤ i
    · exact .inr ⟨h1, by simpa [h1] using q'⟩
    · exact .inl ⟨by omega, by simpa [h1] using q'⟩
  | _ => simpa [numB, btw] using q'
theorem subs_step {n last : Int} {x : D} {r : List D} : subs n last (x :: r) = (btw x (last + 1) (n - 1) && subs n (iOf x) r) := rfl
theorem rd_is_subset (ds : List D) (h : DHp) (X : DX) (Q : DK) (hn : ds.length = 2) (c : ct_is_subset ds h X Q) : tb_is_subset (endsD h X Q) (startD 4 ds) h := by
  obtain ⟨d, n, rfl, ⟨p, p2⟩, q⟩ := c
  have q' := rt_of (h0 := h) (X := X) q
  simp [tb_is_subset, startD, sSeq, sNil, sIf, sRet, sRetN, sSet, sAsg, sExpr, sNever, sFor, sNox, sBrk, sCont, sFldD, sAug, sAugS, dVar, dC, dOp, dI0, dII, dNeg, dInv, dAndV, dOrV, dNotV, dTst, dTru, dAnd, dOr, dNot, dIfE, dChn, dCall, dCallK, dMake, aNil, aCons, dTup, dLst, dLstH, dFldC, dCB, dBM, tgN, tgSub, iL, iT, iR1, iR2, DEnds.xx, dLc, dLcH, dYes, dSl, oNon, oSome, nI2, nTup, nLst, nLstH, mApp, wipeD, dIn, dIsN, dNotN, dAddH, dMulH, isi_t p, tru_bl, tru_int, add_int, add_tup, mul_int, len_tup, len_lst, len_fz, ne_int, eq_int, ne_bl, eq_bl, int_int, int_bl, ty_end, asL_lst, asL_fz, asS_tup, asS_lst, asS_fz, tgs_cons_eq, tgs_nil_eq, tg_tup_eq, tg_lst_eq, at_end, set_end, asS_end, asL_end, at_pre, set_pre, ty_pre, dTupRev, isT_tup p]
  cases d with
  | tup l =>
    refine .inr ⟨rfl, l, rfl, ?_⟩
    have p2' := p2 l rfl
    refine forW_inv l (fun i σ h' => h' = h ∧ ∃ last o, σ = [some (.tup l), some (.int n), some (.int last), o] ∧ subs n (-1) l = subs n last (l.drop i)) ⟨rfl, -1, none, rfl, rfl⟩ (fun _ _ _ _ _ => trivial) ?_ ?_
    · rintro i x σ h' N hx ⟨rfl, last, o, rfl, e⟩ hN
      have hl : i < l.length := (List.getElem?_eq_some_iff.mp hx).1
      have hd : l.drop i = x :: l.drop (i + 1) := by
        rw [List.drop_eq_getElem_cons hl]
        rw [List.getElem?_eq_getElem hl] at hx
        cases hx; rfl
      rw [hd, subs_step] at e
      have px := p2' x (List.mem_of_getElem? hx)
      simp [sSeq, sNil, sIf, sRet, sRetN, sSet, sAsg, sExpr, sNever, sFor, sNox, sBrk, sCont, sFldD, sAug, sAugS, dVar, dC, dOp, dI0, dII, dNeg, dInv, dAndV, dOrV, dNotV, dTst, dTru, dAnd, dOr, dNot, dIfE, dChn, dCall, dCallK, dMake, aNil, aCons, dTup, dLst, dLstH, dFldC, dCB, dBM, tgN, tgSub, iL, iT, iR1, iR2, DEnds.xx, dLc, dLcH, dYes, dSl, oNon, oSome, nI2, nTup, nLst, nLstH, mApp, wipeD, dIn, dIsN, dNotN, dAddH, dMulH, ct_is_between, px, tru_bl, tru_int, add_int, add_tup, mul_int, len_tup, len_lst, len_fz, ne_int, eq_int, ne_bl, eq_bl, int_int, int_bl, ty_end, asL_lst, asL_fz, asS_tup, asS_lst, asS_fz, tgs_cons_eq, tgs_nil_eq, tg_tup_eq, tg_lst_eq, at_end, set_end, asS_end, asL_end, at_pre, set_pre, ty_pre, dTupRev]
      refine ⟨x, _, _, ⟨rfl, rfl, rfl⟩, px, fun hb => ?_, fun hb => ?_⟩
      · have : subB (.tup l) n = false := by show subs n (-1) l = false; rw [e, hb]; rfl
        rw [this] at q'; exact q'
      · refine hN _ _ ⟨rfl, iOf x, some x, ?_, ?_⟩
        · cases x <;> first | rfl | (simp [btw] at hb)
        · rw [e, hb]; simp
    · rintro σ h' ⟨rfl, last, o, rfl, e⟩
      have : subB (.tup l) n = true := by show subs n (-1) l = true; rw [e]; simp [subs]
      rw [this] at q'
      simpa [sSeq, sNil, sIf, sRet, sRetN, sSet, sAsg, sExpr, sNever, sFor, sNox, sBrk, sCont, sFldD, sAug, sAugS, dVar, dC, dOp, dI0, dII, dNeg, dInv, dAndV, dOrV, dNotV, dTst, dTru, dAnd, dOr, dNot, dIfE, dChn, dCall, dCallK, dMake, aNil, aCons, dTup, dLst, dLstH, dFldC, dCB, dBM, tgN, tgSub, iL, iT, iR1, iR2, DEnds.xx, dLc, dLcH, dYes, dSl, oNon, oSome, nI2, nTup, nLst, nLstH, mApp, wipeD, dIn, dIsN, dNotN, dAddH, dMulH] using q'
  | _ => simpa [tupB, subB] using q'
end L2.MW.K47

namespace L2.MW.K47
open PySem PySem.Spec PyProof.Rows L2 L2.MW
theorem maskN_app (a : List Nat) (x : Nat) : maskN (a ++ [x]) = maskN a ||| 2 ^ x := by unfold maskN; rw [List.foldl_append]; rfl
theorem maskN_bit : ∀ (ns : List Nat) (k : Nat), (maskN ns).testBit k = ns.any fun x => x == k := by
  have gen : ∀ (ns : List Nat) (m k : Nat), (ns.foldl (fun m x => m ||| 2 ^ x) m).testBit k = (m.testBit k || ns.any fun x => x == k) := by
    intro ns
    induction ns with
    | nil => intro m k; simp
    | cons x r ih =>
      intro m k
      rw [List.foldl_cons, ih, Nat.testBit_or, Nat.testBit_two_pow, List.any_cons, Bool.or_assoc]
      simp [Bool.beq_eq_decide_eq]
  intro ns k
  unfold maskN
  rw [gen]; simp
theorem rd_mask_of (ds : List D) (h : DHp) (X : DX) (Q : DK) (hn : ds.length = 1) (c : ct_mask_of ds h X Q) : tb_mask_of (endsD h X Q) (startD 3 ds) h := by
  obtain ⟨ns, rfl, hb, q⟩ := c
  have q' := rt_of (h0 := h) (X := X) q
  simp [tb_mask_of, startD, sSeq, sNil, sIf, sRet, sRetN, sSet, sAsg, sExpr, sNever, sFor, sNox, sBrk, sCont, sFldD, sAug, sAugS, dVar, dC, dOp, dI0, dII, dNeg, dInv, dAndV, dOrV, dNotV, dTst, dTru, dAnd, dOr, dNot, dIfE, dChn, dCall, dCallK, dMake, aNil, aCons, dTup, dLst, dLstH, dFldC, dCB, dBM, tgN, tgSub, iL, iT, iR1, iR2, DEnds.xx, dLc, dLcH, dYes, dSl, oNon, oSome, nI2, nTup, nLst, nLstH, mApp, wipeD, dIn, dIsN, dNotN, dAddH, dMulH, tru_bl, tru_int, add_int, add_tup, mul_int, len_tup, len_lst, len_fz, ne_int, eq_int, ne_bl, eq_bl, int_int, int_bl, ty_end, asL_lst, asL_fz, asS_tup, asS_lst, asS_fz, tgs_cons_eq, tgs_nil_eq, tg_tup_eq, tg_lst_eq, at_end, set_end, asS_end, asL_end, at_pre, set_pre, ty_pre, dTupRev]
  refine forW_inv (nats ns) (fun i σ h' => h' = h ∧ ∃ o, σ = [some (.tup (nats ns)), some (.int (maskN (ns.take i) : Nat)), o]) ⟨rfl, none, rfl⟩ (fun _ _ _ _ _ => trivial) ?_ ?_
  · rintro i x σ h' N hx ⟨rfl, o, rfl⟩ hN
    obtain ⟨a, ha, rfl, ht, hd, hm⟩ := get_map hx
    have hb' := hb a hm
    simp [sSeq, sNil, sIf, sRet, sRetN, sSet, sAsg, sExpr, sNever, sFor, sNox, sBrk, sCont, sFldD, sAug, sAugS, dVar, dC, dOp, dI0, dII, dNeg, dInv, dAndV, dOrV, dNotV, dTst, dTru, dAnd, dOr, dNot, dIfE, dChn, dCall, dCallK, dMake, aNil, aCons, dTup, dLst, dLstH, dFldC, dCB, dBM, tgN, tgSub, iL, iT, iR1, iR2, DEnds.xx, dLc, dLcH, dYes, dSl, oNon, oSome, nI2, nTup, nLst, nLstH, mApp, wipeD, dIn, dIsN, dNotN, dAddH, dMulH, tru_bl, tru_int, add_int, add_tup, mul_int, len_tup, len_lst, len_fz, ne_int, eq_int, ne_bl, eq_bl, int_int, int_bl, ty_end, asL_lst, asL_fz, asS_tup, asS_lst, asS_fz, tgs_cons_eq, tgs_nil_eq, tg_tup_eq, tg_lst_eq, at_end, set_end, asS_end, asL_end, at_pre, set_pre, ty_pre, dTupRev]
    refine ⟨⟨by omega, by omega, by decide⟩, hN _ _ ⟨rfl, some (.int a), ?_⟩⟩
    rw [ht, maskN_app, show ((2 : Int) ^ a) = ((2 ^ a : Nat) : Int) by push_cast; rfl, bOr]
  · rintro σ h' ⟨rfl, o, rfl⟩
    have e : ns.take (nats ns).length = ns := by unfold nats; rw [List.length_map, List.take_length]
    rw [e]
    simpa [sSeq, sNil, sIf, sRet, sRetN, sSet, sAsg, sExpr, sNever, sFor, sNox, sBrk, sCont, sFldD, sAug, sAugS, dVar, dC, dOp, dI0, dII, dNeg, dInv, dAndV, dOrV, dNotV, dTst, dTru, dAnd, dOr, dNot, dIfE, dChn, dCall, dCallK, dMake, aNil, aCons, dTup, dLst, dLstH, dFldC, dCB, dBM, tgN, tgSub, iL, iT, iR1, iR2, DEnds.xx, dLc, dLcH, dYes, dSl, oNon, oSome, nI2, nTup, nLst, nLstH, mApp, wipeD, dIn, dIsN, dNotN, dAddH, dMulH] using q'
theorem rd_is_pair (ds : List D) (h : DHp) (X : DX) (Q : DK) (hn : ds.length = 3) (c : ct_is_pair ds h X Q) : tb_is_pair (endsD h X Q) (startD 3 ds) h := by
  obtain ⟨⟨a, b⟩, n, r, rfl, h1, h2, h3, h4, q⟩ := c
  have q' := rt_of (h0 := h) (X := X) q
  have i1 : isT (.tup [.int (a : Int), .int (b : Int)]) "tuple" = true := rfl
  have x1 : btw (.int (a : Int)) 0 ((n : Int) - 1) = true := by simp [btw]; omega
  have x2 : btw (.int (b : Int)) 0 ((n : Int) - 1) = true := by simp [btw]; omega
  simp [tb_is_pair, startD, sSeq, sNil, sIf, sRet, sRetN, sSet, sAsg, sExpr, sNever, sFor, sNox, sBrk, sCont, sFldD, sAug, sAugS, dVar, dC, dOp, dI0, dII, dNeg, dInv, dAndV, dOrV, dNotV, dTst, dTru, dAnd, dOr, dNot, dIfE, dChn, dCall, dCallK, dMake, aNil, aCons, dTup, dLst, dLstH, dFldC, dCB, dBM, tgN, tgSub, iL, iT, iR1, iR2, DEnds.xx, dLc, dLcH, dYes, dSl, oNon, oSome, nI2, nTup, nLst, nLstH, mApp, wipeD, dIn, dIsN, dNotN, dAddH, dMulH, tru_bl, tru_int, add_int, add_tup, mul_int, len_tup, len_lst, len_fz, ne_int, eq_int, ne_bl, eq_bl, int_int, int_bl, ty_end, asL_lst, asL_fz, asS_tup, asS_lst, asS_fz, tgs_cons_eq, tgs_nil_eq, tg_tup_eq, tg_lst_eq, at_end, set_end, asS_end, asL_end, at_pre, set_pre, ty_pre, dTupRev, isi_t (d := prN (a, b)) rfl, show isT (prN (a, b)) "tuple" = true from rfl]
  simp [prN, sSeq, sNil, sIf, sRet, sRetN, sSet, sAsg, sExpr, sNever, sFor, sNox, sBrk, sCont, sFldD, sAug, sAugS, dVar, dC, dOp, dI0, dII, dNeg, dInv, dAndV, dOrV, dNotV, dTst, dTru, dAnd, dOr, dNot, dIfE, dChn, dCall, dCallK, dMake, aNil, aCons, dTup, dLst, dLstH, dFldC, dCB, dBM, tgN, tgSub, iL, iT, iR1, iR2, DEnds.xx, dLc, dLcH, dYes, dSl, oNon, oSome, nI2, nTup, nLst, nLstH, mApp, wipeD, dIn, dIsN, dNotN, dAddH, dMulH, tru_bl, tru_int, add_int, add_tup, mul_int, len_tup, len_lst, len_fz, ne_int, eq_int, ne_bl, eq_bl, int_int, int_bl, ty_end, asL_lst, asL_fz, asS_tup, asS_lst, asS_fz, tgs_cons_eq, tgs_nil_eq, tg_tup_eq, tg_lst_eq, at_end, set_end, asS_end, asL_end, at_pre, set_pre, ty_pre, dTupRev, ix_tup atI_0, ix_tup atI_1, ct_is_between]
  refine ⟨.int a, _, _, ⟨rfl, rfl, rfl⟩, rfl, .inr ⟨x1, .int b, _, _, ⟨rfl, rfl, rfl⟩, rfl, .inr ⟨x2, ?_⟩⟩⟩
  by_cases hab : a < b
  · exact .inr ⟨hab, q'⟩
  · refine .inl ⟨by omega, .inr ⟨by simp at h3; omega, .inl ⟨?_, q'⟩⟩⟩
    cases r with
    | false => rfl
    | true => exact absurd (h4 rfl) hab
theorem le_pair {a b : Nat × Nat} (h : ltP b a) : leNs [(a.1 : Int), (a.2 : Int)] [(b.1 : Int), (b.2 : Int)] = false := by
  unfold leNs ltP at *
  have e1 : min [(a.1 : Int), (a.2 : Int)].length [(b.1 : Int), (b.2 : Int)].length = 2 := rfl
  rw [e1]
  simp [Ob.lexAt]
  split <;> omega
theorem prN_ints (p : Nat × Nat) : prN p = .tup (([(p.1 : Int), (p.2 : Int)] : List Int).map D.int) := rfl
theorem rd_first_wrong_pair (ds : List D) (h : DHp) (X : DX) (Q : DK) (hn : ds.length = 3) (c : ct_first_wrong_pair ds h X Q) : tb_first_wrong_pair (endsD h X Q) (startD 5 ds) h := by
  obtain ⟨ps, n, r, rfl, ok, h4, q⟩ := c
  have q' := rt_of (h0 := h) (X := X) q
  simp [tb_first_wrong_pair, startD, sSeq, sNil, sIf, sRet, sRetN, sSet, sAsg, sExpr, sNever, sFor, sNox, sBrk, sCont, sFldD, sAug, sAugS, dVar, dC, dOp, dI0, dII, dNeg, dInv, dAndV, dOrV, dNotV, dTst, dTru, dAnd, dOr, dNot, dIfE, dChn, dCall, dCallK, dMake, aNil, aCons, dTup, dLst, dLstH, dFldC, dCB, dBM, tgN, tgSub, iL, iT, iR1, iR2, DEnds.xx, dLc, dLcH, dYes, dSl, oNon, oSome, nI2, nTup, nLst, nLstH, mApp, wipeD, dIn, dIsN, dNotN, dAddH, dMulH, tru_bl, tru_int, add_int, add_tup, mul_int, len_tup, len_lst, len_fz, ne_int, eq_int, ne_bl, eq_bl, int_int, int_bl, ty_end, asL_lst, asL_fz, asS_tup, asS_lst, asS_fz, tgs_cons_eq, tgs_nil_eq, tg_tup_eq, tg_lst_eq, at_end, set_end, asS_end, asL_end, at_pre, set_pre, ty_pre, dTupRev, isi_lt (d := .lst (prs ps)) rfl, show isT (.lst (prs ps)) "list" = true from rfl]
  refine ⟨small (by decide), ?_⟩
  have hlen : (enD 0 (prs ps)).length = ps.length := by rw [enD_length]; unfold prs; rw [List.length_map]
  refine forW_inv (enD 0 (prs ps)) (fun i σ h' => h' = h ∧ ∃ o o2, σ = [some (.lst (prs ps)), some (.int n), some (.bl r), o, o2]) ⟨rfl, none, none, rfl⟩ (fun _ _ _ _ _ => rfl) ?_ ?_
  · rintro i x σ h' N hx ⟨rfl, o, o2, rfl⟩ hN
    obtain ⟨y, hy, rfl⟩ := enD_get 0 _ i x hx
    obtain ⟨p, hp, rfl, ht, hd, hm⟩ := get_map hy
    obtain ⟨b1, b2, b3⟩ := ok.bd p hm
    have hN' := hN [some (.lst (prs ps)), some (.int n), some (.bl r), some (.int ((0 + i : Nat) : Int)), some (prN p)] h' ⟨rfl, _, _, rfl⟩
    simp only [sSeq, sNil, sIf, sRet, sRetN, sSet, sAsg, sExpr, sNever, sFor, sNox, sBrk, sCont, sFldD, sAug, sAugS, dVar, dC, dOp, dI0, dII, dNeg, dInv, dAndV, dOrV, dNotV, dTst, dTru, dAnd, dOr, dNot, dIfE, dChn, dCall, dCallK, dMake, aNil, aCons, dTup, dLst, dLstH, dFldC, dCB, dBM, tgN, tgSub, iL, iT, iR1, iR2, DEnds.xx, dLc, dLcH, dYes, dSl, oNon, oSome, nI2, nTup, nLst, nLstH, mApp, wipeD, dIn, dIsN, dNotN, dAddH, dMulH, tru_bl, tru_int, add_int, add_tup, mul_int, len_tup, len_lst, len_fz, ne_int, eq_int, ne_bl, eq_bl, int_int, int_bl, ty_end, asL_lst, asL_fz, asS_tup, asS_lst, asS_fz, tgs_cons_eq, tgs_nil_eq, tg_tup_eq, tg_lst_eq, at_end, set_end, asS_end, asL_end, at_pre, set_pre, ty_pre, dTupRev, List.getElem?_cons_zero, List.getElem?_cons_succ, Option.some.injEq, exists_eq_left', exists_eq_left, exists_and_left, exists_and_right, and_assoc, D.int.injEq, D.bl.injEq, D.str.injEq, D.tup.injEq, D.lst.injEq, D.fz.injEq, D.ref.injEq, HB.lst.injEq, List.cons.injEq, and_true, true_and, List.set_cons_zero, List.set_cons_succ, List.map_cons, List.map_nil, List.length_cons, List.length_nil, Nat.reduceAdd, Nat.reduceSub, Nat.sub_self, Nat.zero_add, List.replicate_zero, List.replicate_succ, List.append_nil, List.cons_append, List.nil_append, decide_eq_true_eq, decide_eq_false_iff_not, Bool.not_eq_true', Bool.not_eq_false', Bool.true_eq_false, Bool.false_eq_true, false_implies, forall_const, true_implies, reduceCtorEq, and_false, false_and, Bool.not_true, Bool.not_false, if_true, if_false]
    rw [Nat.zero_add] at hN'
    refine ⟨p, n, r, rfl, b1, b2, b3, fun hr => h4 hr p hm, true, rfl, (fun z => nomatch z), fun _ => ⟨fun hi => ?_, fun _ => hN'⟩⟩
    obtain ⟨k, rfl⟩ : ∃ k, i = k + 1 := ⟨i - 1, by omega⟩
    have hk : k < ps.length := by have := (List.getElem?_eq_some_iff.mp hp).1; omega
    have hk2 : ps[k]? = some ps[k] := List.getElem?_eq_getElem hk
    have hlt : ltP ps[k] p := by
      obtain ⟨hk1, e1⟩ := List.getElem?_eq_some_iff.mp hp
      rw [← e1]
      exact List.pairwise_iff_getElem.mp ok.up k (k + 1) hk hk1 (Nat.lt_succ_self _)
    have e2 : atI (prs ps) (((k + 1 : Nat) : Int) - 1) = some (prN ps[k]) := by
      have e3 : ((k + 1 : Nat) : Int) - 1 = (k : Int) := by omega
      rw [e3]
      refine atI_nat ?_
      unfold prs
      rw [List.getElem?_map, hk2]; rfl
    refine ix_of rfl e2 ⟨_, _, prN_ints p, prN_ints ps[k], _, rfl, fun z => ?_, fun _ => hN'⟩
    rw [le_pair hlt] at z
    cases z
  · rintro σ h' ⟨rfl, o, o2, rfl⟩
    simpa [sSeq, sNil, sIf, sRet, sRetN, sSet, sAsg, sExpr, sNever, sFor, sNox, sBrk, sCont, sFldD, sAug, sAugS, dVar, dC, dOp, dI0, dII, dNeg, dInv, dAndV, dOrV, dNotV, dTst, dTru, dAnd, dOr, dNot, dIfE, dChn, dCall, dCallK, dMake, aNil, aCons, dTup, dLst, dLstH, dFldC, dCB, dBM, tgN, tgSub, iL, iT, iR1, iR2, DEnds.xx, dLc, dLcH, dYes, dSl, oNon, oSome, nI2, nTup, nLst, nLstH, mApp, wipeD, dIn, dIsN, dNotN, dAddH, dMulH] using q'
/-! ### leading masks -/
/-- the order of a rank: bit m of e only below -/
def Below (r : Nat → Nat) (ms : List Nat) : Prop := ∀ e m k : Nat, ms[e]? = some m → m.testBit k = true → r k < r e
theorem Below.set {r : Nat → Nat} {ms : List Nat} {e v : Nat} (b : Below r ms) (h : ∀ k, v.testBit k = true → r k < r e) : Below r (ms.set e v) := by
  intro e' m k hm hk
  by_cases q : e = e'
  · subst q
    have hl : e < ms.length := by have := (List.getElem?_eq_some_iff.mp hm).1; rwa [List.length_set] at this
    rw [List.getElem?_set_self hl] at hm
    cases hm
    exact h k hk
  · rw [List.getElem?_set_ne q] at hm
    exact b e' m k hm hk
theorem nats_set {ms : List Nat} {e v : Nat} : (nats ms).set e (.int (v : Int)) = nats (ms.set e v) := by unfold nats; rw [List.map_set]
theorem nats_at {ms : List Nat} {e v : Nat} (h : ms[e]? = some v) : atI (nats ms) (e : Int) = some (.int (v : Int)) := by
  refine atI_nat ?_
  unfold nats
  rw [List.getElem?_map, h]; rfl
theorem nats_len {ms : List Nat} : (nats ms).length = ms.length := by unfold nats; rw [List.length_map]
theorem Bds_nats {m : Nat} {l : List Nat} : Bds m (nats l) := Bds_all fun x hx => by
  obtain ⟨a, _, rfl⟩ := List.mem_map.mp hx
  trivial
theorem get_lt {α : Type} {l : List α} {i : Nat} (h : i < l.length) : ∃ a, l[i]? = some a := ⟨_, List.getElem?_eq_getElem h⟩
theorem rd_leading_masks (ds : List D) (h : DHp) (X : DX) (Q : DK) (hds : ds.length = 2) (c : ct_leading_masks ds h X Q) : tb_leading_masks (endsD h X Q) (startD 7 ds) h := by
  obtain ⟨ps, n, rfl, hn, ok, ⟨r, hr⟩, q⟩ := c
  simp only [tb_leading_masks, startD, sSeq, sNil, sIf, sRet, sRetN, sSet, sAsg, sExpr, sNever, sFor, sNox, sBrk, sCont, sFldD, sAug, sAugS, dVar, dC, dOp, dI0, dII, dNeg, dInv, dAndV, dOrV, dNotV, dTst, dTru, dAnd, dOr, dNot, dIfE, dChn, dCall, dCallK, dMake, aNil, aCons, dTup, dLst, dLstH, dFldC, dCB, dBM, tgN, tgSub, iL, iT, iR1, iR2, DEnds.xx, dLc, dLcH, dYes, dSl, oNon, oSome, nI2, nTup, nLst, nLstH, mApp, wipeD, dIn, dIsN, dNotN, dAddH, dMulH, tru_bl, tru_int, add_int, add_tup, mul_int, len_tup, len_lst, len_fz, ne_int, eq_int, ne_bl, eq_bl, int_int, int_bl, ty_end, asL_lst, asL_fz, asS_tup, asS_lst, asS_fz, tgs_cons_eq, tgs_nil_eq, tg_tup_eq, tg_lst_eq, at_end, set_end, asS_end, asL_end, at_pre, set_pre, ty_pre, dTupRev, List.getElem?_cons_zero, List.getElem?_cons_succ, Option.some.injEq, exists_eq_left', exists_eq_left, exists_and_left, exists_and_right, and_assoc, D.int.injEq, D.bl.injEq, D.str.injEq, D.tup.injEq, D.lst.injEq, D.fz.injEq, D.ref.injEq, HB.lst.injEq, List.cons.injEq, and_true, true_and, List.set_cons_zero, List.set_cons_succ, List.map_cons, List.map_nil, List.length_cons, List.length_nil, Nat.reduceAdd, Nat.reduceSub, Nat.sub_self, Nat.zero_add, List.replicate_zero, List.replicate_succ, List.append_nil, List.cons_append, List.nil_append, decide_eq_true_eq, decide_eq_false_iff_not, Bool.not_eq_true', Bool.not_eq_false', Bool.true_eq_false, Bool.false_eq_true, false_implies, forall_const, true_implies, reduceCtorEq, and_false, false_and, Bool.not_true, Bool.not_false, if_true, if_false]
  have e0 : (List.replicate ((n : Nat) : Int).toNat [D.int 0]).flatten = nats (List.replicate n 0) := by
    rw [Int.toNat_natCast]
    unfold nats
    rw [List.map_replicate]
    clear q hn hr ok hds
    induction n with
    | zero => rfl
    | succ n ih => rw [List.replicate_succ, List.flatten_cons, ih, List.replicate_succ]; rfl
  refine ⟨small (by decide), [.int 0], rfl, by omega, by omega, by rw [Int.toNat_natCast]; exact small (by show 1 * n ≤ _; omega), ?_⟩
  rw [e0]
  let J : DSt → DHp → Prop := fun σ h' => ∃ o3 o4 o5 o6 ms, σ = [some (.int n), some (.lst (prs ps)), some (.ref h.length), o3, o4, o5, o6] ∧ h' = h ++ [.lst (nats ms)] ∧ ms.length = n ∧ Below r ms
  refine forW_inv (prs ps) (fun i σ h' => J σ h') ⟨none, none, none, none, _, rfl, rfl, by simp, ?_⟩ (fun _ _ _ _ _ => rfl) ?_ ?_
  · intro e m k hm hk
    have : m = 0 := by
      have := List.mem_of_getElem? hm
      exact (List.mem_replicate.mp this).2
    subst this
    simp at hk
  · rintro i x σ h' N hx ⟨o3, o4, o5, o6, ms, rfl, rfl, hl, hB⟩ hN
    obtain ⟨p, hp, rfl, ht, hd, hm⟩ := get_map hx
    obtain ⟨b1, b2, b3⟩ := ok.bd p hm
    obtain ⟨v, hv⟩ := get_lt (l := ms) (i := p.2) (by omega)
    simp only [prN, sSeq, sNil, sIf, sRet, sRetN, sSet, sAsg, sExpr, sNever, sFor, sNox, sBrk, sCont, sFldD, sAug, sAugS, dVar, dC, dOp, dI0, dII, dNeg, dInv, dAndV, dOrV, dNotV, dTst, dTru, dAnd, dOr, dNot, dIfE, dChn, dCall, dCallK, dMake, aNil, aCons, dTup, dLst, dLstH, dFldC, dCB, dBM, tgN, tgSub, iL, iT, iR1, iR2, DEnds.xx, dLc, dLcH, dYes, dSl, oNon, oSome, nI2, nTup, nLst, nLstH, mApp, wipeD, dIn, dIsN, dNotN, dAddH, dMulH, tru_bl, tru_int, add_int, add_tup, mul_int, len_tup, len_lst, len_fz, ne_int, eq_int, ne_bl, eq_bl, int_int, int_bl, ty_end, asL_lst, asL_fz, asS_tup, asS_lst, asS_fz, tgs_cons_eq, tgs_nil_eq, tg_tup_eq, tg_lst_eq, at_end, set_end, asS_end, asL_end, at_pre, set_pre, ty_pre, dTupRev, List.getElem?_cons_zero, List.getElem?_cons_succ, Option.some.injEq, exists_eq_left', exists_eq_left, exists_and_left, exists_and_right, and_assoc, D.int.injEq, D.bl.injEq, D.str.injEq, D.tup.injEq, D.lst.injEq, D.fz.injEq, D.ref.injEq, HB.lst.injEq, List.cons.injEq, and_true, true_and, List.set_cons_zero, List.set_cons_succ, List.map_cons, List.map_nil, List.length_cons, List.length_nil, Nat.reduceAdd, Nat.reduceSub, Nat.sub_self, Nat.zero_add, List.replicate_zero, List.replicate_succ, List.append_nil, List.cons_append, List.nil_append, decide_eq_true_eq, decide_eq_false_iff_not, Bool.not_eq_true', Bool.not_eq_false', Bool.true_eq_false, Bool.false_eq_true, false_implies, forall_const, true_implies, reduceCtorEq, and_false, false_and, Bool.not_true, Bool.not_false, if_true, if_false]
    have ix : ixN (nats ms).length (p.2 : Int) = some p.2 := by rw [nats_len]; exact ixN_nat (by omega)
    refine ⟨_, ix, .int v, by unfold nats; rw [List.getElem?_map, hv]; rfl, ⟨by omega, by omega, by decide⟩, _, rfl, ix, ?_⟩
    refine hN _ _ ⟨_, _, _, _, ms.set p.2 (v ||| 2 ^ p.1), rfl, ?_, by rw [List.length_set]; exact hl, hB.set fun k hk => ?_⟩
    · rw [bShl, Int.toNat_natCast, bOr, nats_set]
    · rw [Nat.testBit_or, Nat.testBit_two_pow] at hk
      rcases Bool.or_eq_true_iff.mp hk with hk | hk
      · exact hB _ _ _ hv hk
      · have := of_decide_eq_true hk
        subst this
        exact hr p hm
  · rintro σ h' ⟨o3, o4, o5, o6, ms, rfl, rfl, hl, hB⟩
    simp only [sSeq, sNil, sIf, sRet, sRetN, sSet, sAsg, sExpr, sNever, sFor, sNox, sBrk, sCont, sFldD, sAug, sAugS, dVar, dC, dOp, dI0, dII, dNeg, dInv, dAndV, dOrV, dNotV, dTst, dTru, dAnd, dOr, dNot, dIfE, dChn, dCall, dCallK, dMake, aNil, aCons, dTup, dLst, dLstH, dFldC, dCB, dBM, tgN, tgSub, iL, iT, iR1, iR2, DEnds.xx, dLc, dLcH, dYes, dSl, oNon, oSome, nI2, nTup, nLst, nLstH, mApp, wipeD, dIn, dIsN, dNotN, dAddH, dMulH, tru_bl, tru_int, add_int, add_tup, mul_int, len_tup, len_lst, len_fz, ne_int, eq_int, ne_bl, eq_bl, int_int, int_bl, ty_end, asL_lst, asL_fz, asS_tup, asS_lst, asS_fz, tgs_cons_eq, tgs_nil_eq, tg_tup_eq, tg_lst_eq, at_end, set_end, asS_end, asL_end, at_pre, set_pre, ty_pre, dTupRev, List.getElem?_cons_zero, List.getElem?_cons_succ, Option.some.injEq, exists_eq_left', exists_eq_left, exists_and_left, exists_and_right, and_assoc, D.int.injEq, D.bl.injEq, D.str.injEq, D.tup.injEq, D.lst.injEq, D.fz.injEq, D.ref.injEq, HB.lst.injEq, List.cons.injEq, and_true, true_and, List.set_cons_zero, List.set_cons_succ, List.map_cons, List.map_nil, List.length_cons, List.length_nil, Nat.reduceAdd, Nat.reduceSub, Nat.sub_self, Nat.zero_add, List.replicate_zero, List.replicate_succ, List.append_nil, List.cons_append, List.nil_append, decide_eq_true_eq, decide_eq_false_iff_not, Bool.not_eq_true', Bool.not_eq_false', Bool.true_eq_false, Bool.false_eq_true, false_implies, forall_const, true_implies, reduceCtorEq, and_false, false_and, Bool.not_true, Bool.not_false, if_true, if_false]
    refine ⟨rgOk (by omega), ?_⟩
    rw [Int.toNat_natCast]
    refine forW_inv (rgD 0 n) (fun i σ h' => J σ h') ⟨_, _, _, _, ms, rfl, rfl, hl, hB⟩ (fun _ _ _ _ _ => trivial) ?_ ?_
    · rintro i x σ h' N hx ⟨o3, o4, o5, o6, ms, rfl, rfl, hl, hB⟩ hN
      obtain ⟨rfl, hi⟩ := rg_get hx
      simp only [sSeq, sNil, sIf, sRet, sRetN, sSet, sAsg, sExpr, sNever, sFor, sNox, sBrk, sCont, sFldD, sAug, sAugS, dVar, dC, dOp, dI0, dII, dNeg, dInv, dAndV, dOrV, dNotV, dTst, dTru, dAnd, dOr, dNot, dIfE, dChn, dCall, dCallK, dMake, aNil, aCons, dTup, dLst, dLstH, dFldC, dCB, dBM, tgN, tgSub, iL, iT, iR1, iR2, DEnds.xx, dLc, dLcH, dYes, dSl, oNon, oSome, nI2, nTup, nLst, nLstH, mApp, wipeD, dIn, dIsN, dNotN, dAddH, dMulH, tru_bl, tru_int, add_int, add_tup, mul_int, len_tup, len_lst, len_fz, ne_int, eq_int, ne_bl, eq_bl, int_int, int_bl, ty_end, asL_lst, asL_fz, asS_tup, asS_lst, asS_fz, tgs_cons_eq, tgs_nil_eq, tg_tup_eq, tg_lst_eq, at_end, set_end, asS_end, asL_end, at_pre, set_pre, ty_pre, dTupRev, List.getElem?_cons_zero, List.getElem?_cons_succ, Option.some.injEq, exists_eq_left', exists_eq_left, exists_and_left, exists_and_right, and_assoc, D.int.injEq, D.bl.injEq, D.str.injEq, D.tup.injEq, D.lst.injEq, D.fz.injEq, D.ref.injEq, HB.lst.injEq, List.cons.injEq, and_true, true_and, List.set_cons_zero, List.set_cons_succ, List.map_cons, List.map_nil, List.length_cons, List.length_nil, Nat.reduceAdd, Nat.reduceSub, Nat.sub_self, Nat.zero_add, List.replicate_zero, List.replicate_succ, List.append_nil, List.cons_append, List.nil_append, decide_eq_true_eq, decide_eq_false_iff_not, Bool.not_eq_true', Bool.not_eq_false', Bool.true_eq_false, Bool.false_eq_true, false_implies, forall_const, true_implies, reduceCtorEq, and_false, false_and, Bool.not_true, Bool.not_false, if_true, if_false]
      refine ⟨rgOk (by omega), ?_⟩
      rw [Int.toNat_natCast]
      refine forW_inv (rgD 0 n) (fun _ σ h' => ∃ o3 o4 o6 ms, σ = [some (.int n), some (.lst (prs ps)), some (.ref h.length), o3, o4, some (.int i), o6] ∧ h' = h ++ [.lst (nats ms)] ∧ ms.length = n ∧ Below r ms) ⟨_, _, _, ms, rfl, rfl, hl, hB⟩ (fun _ _ _ _ _ => trivial) ?_ ?_
      · rintro e x σ h' N hx ⟨o3, o4, o6, ms, rfl, rfl, hl, hB⟩ hN
        obtain ⟨rfl, he⟩ := rg_get hx
        obtain ⟨v, hv⟩ := get_lt (l := ms) (i := e) (by omega)
        obtain ⟨u, hu⟩ := get_lt (l := ms) (i := i) (by omega)
        simp only [sSeq, sNil, sIf, sRet, sRetN, sSet, sAsg, sExpr, sNever, sFor, sNox, sBrk, sCont, sFldD, sAug, sAugS, dVar, dC, dOp, dI0, dII, dNeg, dInv, dAndV, dOrV, dNotV, dTst, dTru, dAnd, dOr, dNot, dIfE, dChn, dCall, dCallK, dMake, aNil, aCons, dTup, dLst, dLstH, dFldC, dCB, dBM, tgN, tgSub, iL, iT, iR1, iR2, DEnds.xx, dLc, dLcH, dYes, dSl, oNon, oSome, nI2, nTup, nLst, nLstH, mApp, wipeD, dIn, dIsN, dNotN, dAddH, dMulH, tru_bl, tru_int, add_int, add_tup, mul_int, len_tup, len_lst, len_fz, ne_int, eq_int, ne_bl, eq_bl, int_int, int_bl, ty_end, asL_lst, asL_fz, asS_tup, asS_lst, asS_fz, tgs_cons_eq, tgs_nil_eq, tg_tup_eq, tg_lst_eq, at_end, set_end, asS_end, asL_end, at_pre, set_pre, ty_pre, dTupRev, List.getElem?_cons_zero, List.getElem?_cons_succ, Option.some.injEq, exists_eq_left', exists_eq_left, exists_and_left, exists_and_right, and_assoc, D.int.injEq, D.bl.injEq, D.str.injEq, D.tup.injEq, D.lst.injEq, D.fz.injEq, D.ref.injEq, HB.lst.injEq, List.cons.injEq, and_true, true_and, List.set_cons_zero, List.set_cons_succ, List.map_cons, List.map_nil, List.length_cons, List.length_nil, Nat.reduceAdd, Nat.reduceSub, Nat.sub_self, Nat.zero_add, List.replicate_zero, List.replicate_succ, List.append_nil, List.cons_append, List.nil_append, decide_eq_true_eq, decide_eq_false_iff_not, Bool.not_eq_true', Bool.not_eq_false', Bool.true_eq_false, Bool.false_eq_true, false_implies, forall_const, true_implies, reduceCtorEq, and_false, false_and, Bool.not_true, Bool.not_false, if_true, if_false, ix_ref at_end (nats_at hv), ix_ref at_end (nats_at hu)]
        refine ⟨by omega, ?_⟩
        rw [Int.toNat_natCast, bBit]
        have ix : ixN (nats ms).length (e : Int) = some e := by rw [nats_len]; exact ixN_nat (by omega)
        refine ⟨fun z => ⟨_, ix, hN _ _ ⟨_, _, _, ms.set e (v ||| u), rfl, by rw [bOr, nats_set], by rw [List.length_set]; exact hl, hB.set fun k hk => ?_⟩⟩, fun _ => hN _ _ ⟨_, _, _, ms, rfl, rfl, hl, hB⟩⟩
        have hvi : v.testBit i = true := by
          cases q : v.testBit i with
          | true => rfl
          | false => rw [q] at z; cases z
        rw [Nat.testBit_or] at hk
        rcases Bool.or_eq_true_iff.mp hk with hk | hk
        · exact hB _ _ _ hv hk
        · exact Nat.lt_trans (hB _ _ _ hu hk) (hB _ _ _ hv hvi)
      · rintro σ h' ⟨o3, o4, o6, ms, rfl, rfl, hl, hB⟩
        exact hN _ _ ⟨_, _, _, _, ms, rfl, rfl, hl, hB⟩
    · rintro σ h' ⟨o3, o4, o5, o6, ms, rfl, rfl, hl, hB⟩
      simp only [sSeq, sNil, sIf, sRet, sRetN, sSet, sAsg, sExpr, sNever, sFor, sNox, sBrk, sCont, sFldD, sAug, sAugS, dVar, dC, dOp, dI0, dII, dNeg, dInv, dAndV, dOrV, dNotV, dTst, dTru, dAnd, dOr, dNot, dIfE, dChn, dCall, dCallK, dMake, aNil, aCons, dTup, dLst, dLstH, dFldC, dCB, dBM, tgN, tgSub, iL, iT, iR1, iR2, DEnds.xx, dLc, dLcH, dYes, dSl, oNon, oSome, nI2, nTup, nLst, nLstH, mApp, wipeD, dIn, dIsN, dNotN, dAddH, dMulH, tru_bl, tru_int, add_int, add_tup, mul_int, len_tup, len_lst, len_fz, ne_int, eq_int, ne_bl, eq_bl, int_int, int_bl, ty_end, asL_lst, asL_fz, asS_tup, asS_lst, asS_fz, tgs_cons_eq, tgs_nil_eq, tg_tup_eq, tg_lst_eq, at_end, set_end, asS_end, asL_end, at_pre, set_pre, ty_pre, dTupRev, List.getElem?_cons_zero, List.getElem?_cons_succ, Option.some.injEq, exists_eq_left', exists_eq_left, exists_and_left, exists_and_right, and_assoc, D.int.injEq, D.bl.injEq, D.str.injEq, D.tup.injEq, D.lst.injEq, D.fz.injEq, D.ref.injEq, HB.lst.injEq, List.cons.injEq, and_true, true_and, List.set_cons_zero, List.set_cons_succ, List.map_cons, List.map_nil, List.length_cons, List.length_nil, Nat.reduceAdd, Nat.reduceSub, Nat.sub_self, Nat.zero_add, List.replicate_zero, List.replicate_succ, List.append_nil, List.cons_append, List.nil_append, decide_eq_true_eq, decide_eq_false_iff_not, Bool.not_eq_true', Bool.not_eq_false', Bool.true_eq_false, Bool.false_eq_true, false_implies, forall_const, true_implies, reduceCtorEq, and_false, false_and, Bool.not_true, Bool.not_false, if_true, if_false]
      refine rt_lst Bds_nats (q ms hl fun e m hm => ?_)
      cases z : m.testBit e with
      | false => rfl
      | true => exact absurd (hB _ _ _ hm z) (Nat.lt_irrefl _)
theorem rd_has_cycle (ds : List D) (h : DHp) (X : DX) (Q : DK) (hds : ds.length = 2) (c : ct_has_cycle ds h X Q) : tb_has_cycle (endsD h X Q) (startD 4 ds) h := by
  obtain ⟨ps, n, rfl, hn, ok, hr, q⟩ := c
  have q' := rt_of (h0 := h) (X := X) q
  simp only [tb_has_cycle, startD, sSeq, sNil, sIf, sRet, sRetN, sSet, sAsg, sExpr, sNever, sFor, sNox, sBrk, sCont, sFldD, sAug, sAugS, dVar, dC, dOp, dI0, dII, dNeg, dInv, dAndV, dOrV, dNotV, dTst, dTru, dAnd, dOr, dNot, dIfE, dChn, dCall, dCallK, dMake, aNil, aCons, dTup, dLst, dLstH, dFldC, dCB, dBM, tgN, tgSub, iL, iT, iR1, iR2, DEnds.xx, dLc, dLcH, dYes, dSl, oNon, oSome, nI2, nTup, nLst, nLstH, mApp, wipeD, dIn, dIsN, dNotN, dAddH, dMulH, tru_bl, tru_int, add_int, add_tup, mul_int, len_tup, len_lst, len_fz, ne_int, eq_int, ne_bl, eq_bl, int_int, int_bl, ty_end, asL_lst, asL_fz, asS_tup, asS_lst, asS_fz, tgs_cons_eq, tgs_nil_eq, tg_tup_eq, tg_lst_eq, at_end, set_end, asS_end, asL_end, at_pre, set_pre, ty_pre, dTupRev, List.getElem?_cons_zero, List.getElem?_cons_succ, Option.some.injEq, exists_eq_left', exists_eq_left, exists_and_left, exists_and_right, and_assoc, D.int.injEq, D.bl.injEq, D.str.injEq, D.tup.injEq, D.lst.injEq, D.fz.injEq, D.ref.injEq, HB.lst.injEq, List.cons.injEq, and_true, true_and, List.set_cons_zero, List.set_cons_succ, List.map_cons, List.map_nil, List.length_cons, List.length_nil, Nat.reduceAdd, Nat.reduceSub, Nat.sub_self, Nat.zero_add, List.replicate_zero, List.replicate_succ, List.append_nil, List.cons_append, List.nil_append, decide_eq_true_eq, decide_eq_false_iff_not, Bool.not_eq_true', Bool.not_eq_false', Bool.true_eq_false, Bool.false_eq_true, false_implies, forall_const, true_implies, reduceCtorEq, and_false, false_and, Bool.not_true, Bool.not_false, if_true, if_false]
  refine ⟨ps, n, rfl, hn, ok, hr, fun ms hl hB => ?_⟩
  refine ⟨rgOk (by omega), ?_⟩
  rw [Int.toNat_natCast]
  refine forW_inv (rgD 0 n) (fun _ σ h' => h' = h ∧ ∃ o, σ = [some (.int n), some (.lst (prs ps)), some (.lst (nats ms)), o]) ⟨rfl, none, rfl⟩ (fun _ _ _ _ _ => trivial) ?_ ?_
  · rintro i x σ h' N hx ⟨rfl, o, rfl⟩ hN
    obtain ⟨rfl, hi⟩ := rg_get hx
    obtain ⟨v, hv⟩ := get_lt (l := ms) (i := i) (by omega)
    simp only [sSeq, sNil, sIf, sRet, sRetN, sSet, sAsg, sExpr, sNever, sFor, sNox, sBrk, sCont, sFldD, sAug, sAugS, dVar, dC, dOp, dI0, dII, dNeg, dInv, dAndV, dOrV, dNotV, dTst, dTru, dAnd, dOr, dNot, dIfE, dChn, dCall, dCallK, dMake, aNil, aCons, dTup, dLst, dLstH, dFldC, dCB, dBM, tgN, tgSub, iL, iT, iR1, iR2, DEnds.xx, dLc, dLcH, dYes, dSl, oNon, oSome, nI2, nTup, nLst, nLstH, mApp, wipeD, dIn, dIsN, dNotN, dAddH, dMulH, tru_bl, tru_int, add_int, add_tup, mul_int, len_tup, len_lst, len_fz, ne_int, eq_int, ne_bl, eq_bl, int_int, int_bl, ty_end, asL_lst, asL_fz, asS_tup, asS_lst, asS_fz, tgs_cons_eq, tgs_nil_eq, tg_tup_eq, tg_lst_eq, at_end, set_end, asS_end, asL_end, at_pre, set_pre, ty_pre, dTupRev, List.getElem?_cons_zero, List.getElem?_cons_succ, Option.some.injEq, exists_eq_left', exists_eq_left, exists_and_left, exists_and_right, and_assoc, D.int.injEq, D.bl.injEq, D.str.injEq, D.tup.injEq, D.lst.injEq, D.fz.injEq, D.ref.injEq, HB.lst.injEq, List.cons.injEq, and_true, true_and, List.set_cons_zero, List.set_cons_succ, List.map_cons, List.map_nil, List.length_cons, List.length_nil, Nat.reduceAdd, Nat.reduceSub, Nat.sub_self, Nat.zero_add, List.replicate_zero, List.replicate_succ, List.append_nil, List.cons_append, List.nil_append, decide_eq_true_eq, decide_eq_false_iff_not, Bool.not_eq_true', Bool.not_eq_false', Bool.true_eq_false, Bool.false_eq_true, false_implies, forall_const, true_implies, reduceCtorEq, and_false, false_and, Bool.not_true, Bool.not_false, if_true, if_false, ix_lst (nats_at hv)]
    refine ⟨by omega, ?_⟩
    rw [Int.toNat_natCast, bBit, hB i v hv]
    exact ⟨(fun z => nomatch z), fun _ => hN _ _ ⟨rfl, _, rfl⟩⟩
  · rintro σ h' ⟨rfl, o, rfl⟩
    simpa only [sSeq, sNil, sIf, sRet, sRetN, sSet, sAsg, sExpr, sNever, sFor, sNox, sBrk, sCont, sFldD, sAug, sAugS, dVar, dC, dOp, dI0, dII, dNeg, dInv, dAndV, dOrV, dNotV, dTst, dTru, dAnd, dOr, dNot, dIfE, dChn, dCall, dCallK, dMake, aNil, aCons, dTup, dLst, dLstH, dFldC, dCB, dBM, tgN, tgSub, iL, iT, iR1, iR2, DEnds.xx, dLc, dLcH, dYes, dSl, oNon, oSome, nI2, nTup, nLst, nLstH, mApp, wipeD, dIn, dIsN, dNotN, dAddH, dMulH, tru_bl, tru_int, add_int, add_tup, mul_int, len_tup, len_lst, len_fz, ne_int, eq_int, ne_bl, eq_bl, int_int, int_bl, ty_end, asL_lst, asL_fz, asS_tup, asS_lst, asS_fz, tgs_cons_eq, tgs_nil_eq, tg_tup_eq, tg_lst_eq, at_end, set_end, asS_end, asL_end, at_pre, set_pre, ty_pre, dTupRev, List.getElem?_cons_zero, List.getElem?_cons_succ, Option.some.injEq, exists_eq_left', exists_eq_left, exists_and_left, exists_and_right, and_assoc, D.int.injEq, D.bl.injEq, D.str.injEq, D.tup.injEq, D.lst.injEq, D.fz.injEq, D.ref.injEq, HB.lst.injEq, List.cons.injEq, and_true, true_and, List.set_cons_zero, List.set_cons_succ, List.map_cons, List.map_nil, List.length_cons, List.length_nil, Nat.reduceAdd, Nat.reduceSub, Nat.sub_self, Nat.zero_add, List.replicate_zero, List.replicate_succ, List.append_nil, List.cons_append, List.nil_append, decide_eq_true_eq, decide_eq_false_iff_not, Bool.not_eq_true', Bool.not_eq_false', Bool.true_eq_false, Bool.false_eq_true, false_implies, forall_const, true_implies, reduceCtorEq, and_false, false_and, Bool.not_true, Bool.not_false, if_true, if_false] using q'
end L2.MW.K47

namespace L2.MW.K47
open PySem PySem.Spec PyProof.Rows L2 L2.MW
theorem list3 : asS ([] : DHp) (.lst []) = some [] := rfl
theorem rd_Events_init (ds : List D) (h : DHp) (X : DX) (Q : DK) (hds : ds.length = 4) (c : ct_Events_init ds h X Q) : tb_Events_init (endsD h X Q) (startD 5 ds) h := by
  obtain ⟨i, n, cs, fs, rfl, hi, hn, ok1, rk, ok2, hf, q⟩ := c
  have hil : i < h.length := (List.getElem?_eq_some_iff.mp hi).1
  have x1 : btw (.int (n : Int)) 0 39 = true := by simp [btw]; omega
  simp only [tb_Events_init, startD, sSeq, sNil, sIf, sRet, sRetN, sSet, sAsg, sExpr, sNever, sFor, sNox, sBrk, sCont, sFldD, sAug, sAugS, dVar, dC, dOp, dI0, dII, dNeg, dInv, dAndV, dOrV, dNotV, dTst, dTru, dAnd, dOr, dNot, dIfE, dChn, dCall, dCallK, dMake, aNil, aCons, dTup, dLst, dLstH, dFldC, dCB, dBM, tgN, tgSub, iL, iT, iR1, iR2, DEnds.xx, dLc, dLcH, dYes, dSl, oNon, oSome, nI2, nTup, nLst, nLstH, mApp, wipeD, dIn, dIsN, dNotN, dAddH, dMulH, tru_bl, tru_int, add_int, add_tup, mul_int, len_tup, len_lst, len_fz, ne_int, eq_int, ne_bl, eq_bl, int_int, int_bl, ty_end, asL_lst, asL_fz, asS_tup, asS_lst, asS_fz, tgs_cons_eq, tgs_nil_eq, tg_tup_eq, tg_lst_eq, at_end, set_end, asS_end, asL_end, at_pre, set_pre, ty_pre, dTupRev, List.getElem?_cons_zero, List.getElem?_cons_succ, Option.some.injEq, exists_eq_left', exists_eq_left, exists_and_left, exists_and_right, and_assoc, D.int.injEq, D.bl.injEq, D.str.injEq, D.tup.injEq, D.lst.injEq, D.fz.injEq, D.ref.injEq, HB.lst.injEq, List.cons.injEq, and_true, true_and, List.set_cons_zero, List.set_cons_succ, List.map_cons, List.map_nil, List.length_cons, List.length_nil, Nat.reduceAdd, Nat.reduceSub, Nat.sub_self, Nat.zero_add, List.replicate_zero, List.replicate_succ, List.append_nil, List.cons_append, List.nil_append, decide_eq_true_eq, decide_eq_false_iff_not, Bool.not_eq_true', Bool.not_eq_false', Bool.true_eq_false, Bool.false_eq_true, false_implies, forall_const, true_implies, reduceCtorEq, and_false, false_and, Bool.not_true, Bool.not_false, if_true, if_false]
  refine ⟨.int n, _, _, rfl, rfl, _, rfl, fun z => (by rw [x1] at z; cases z), fun _ => ?_⟩
  refine ⟨cs, n, false, rfl, ok1, (fun z => nomatch z), ?_⟩
  refine ⟨(fun z => nomatch z), fun _ => ?_⟩
  refine ⟨cs, n, rfl, by omega, ok1, rk, _, rfl, (fun z => nomatch z), fun _ => ?_⟩
  refine ⟨fs, n, true, rfl, ok2, fun _ => hf, ?_⟩
  refine ⟨(fun z => nomatch z), fun _ => ?_⟩
  have l1 : ∀ b : HB, (h.set i b)[i]? = some b := fun b => List.getElem?_set_self hil
  refine ⟨i, "Events", List.mem_cons_self, rfl, [], hi, Nat.zero_lt_succ _, rfl, i, "Events", List.mem_cons_self, rfl, [("many", .int n)], l1 _, (by show 1 < 1000; decide), rfl, i, "Events", List.mem_cons_self, rfl, [("many", .int n), ("causes", .tup (prs cs))], ?_, (by show 2 < 1000; decide), rfl, ?_⟩
  · rw [List.set_set]
    exact l1 _
  · rw [List.set_set, List.set_set]
    exact rt_keep q
theorem subs_nats {n : Nat} : ∀ (l : List D) (last : Int), -1 ≤ last → subs n last l = true → ∃ ns : List Nat, l = nats ns ∧ ∀ x ∈ ns, x < n
  | [], _, _, _ => ⟨[], rfl, by simp⟩
  | d :: r, last, hl, h => by
    rw [subs_step, Bool.and_eq_true] at h
    cases d with
    | int i =>
      have h1 : last + 1 ≤ i ∧ i ≤ (n : Int) - 1 := by simpa [btw] using h.1
      obtain ⟨ns, e, hb⟩ := subs_nats r i (by omega) h.2
      refine ⟨i.toNat :: ns, ?_, fun x hx => ?_⟩
      · rw [e]
        show _ = D.int ((i.toNat : Nat) : Int) :: nats ns
        rw [show ((i.toNat : Nat) : Int) = i by omega]
      · rcases List.mem_cons.mp hx with rfl | hx
        · omega
        · exact hb x hx
    | _ => simp [btw] at h
theorem any_nats (ns : List Nat) (k : Nat) : ((nats ns).any fun x => iOf x == (k : Int)) = (maskN ns).testBit k := by
  rw [maskN_bit]
  unfold nats
  rw [List.any_map]
  congr 1
  funext x
  show ((x : Int) == (k : Int)) = (x == k)
  rw [Bool.eq_iff_iff]; simp; omega
def gdC (m : Nat) (p : Nat × Nat) : Bool := !(m.testBit p.2) || m.testBit p.1
def gdF (m : Nat) (p : Nat × Nat) : Bool := !(m.testBit p.1 && m.testBit p.2)
theorem okB_nats {n : Nat} {cs fs : List (Nat × Nat)} {ns : List Nat} (h : subs n (-1) (nats ns) = true) : okB n cs fs (.tup (nats ns)) = (cs.all (gdC (maskN ns)) && fs.all (gdF (maskN ns))) := by
  show (subs n (-1) (nats ns) && _) = _
  rw [h, Bool.true_and]
  congr 1
  · congr 1; funext p; rw [any_nats, any_nats]; rfl
  · congr 1; funext p; rw [any_nats, any_nats]; rfl
theorem bit_tru {b : Bool} : ((if b = true then (1 : Int) else 0) != 0) = b := by cases b <;> rfl
theorem all_bad {α : Type} {l : List α} {f : α → Bool} {a : α} (h : a ∈ l) (hf : f a = false) : l.all f = false := by
  cases q : l.all f with
  | false => rfl
  | true => rw [List.all_eq_true.mp q a h] at hf; cases hf
theorem all_take {α : Type} {l : List α} {f : α → Bool} {i : Nat} {a : α} (h : (l.take i).all f = true) (ht : l.take (i + 1) = l.take i ++ [a]) (hf : f a = true) : (l.take (i + 1)).all f = true := by
  rw [ht, List.all_append, h]; simp [hf]
theorem prs_len {ps : List (Nat × Nat)} : (prs ps).length = ps.length := by unfold prs; rw [List.length_map]
theorem rd_is_state (ds : List D) (h : DHp) (X : DX) (Q : DK) (hds : ds.length = 2) (c : ct_is_state ds h X Q) : tb_is_state (endsD h X Q) (startD 5 ds) h := by
  obtain ⟨n, cs, fs, d, rfl, hn, ok1, ok2, pl, q⟩ := c
  have q' := rt_of (h0 := h) (X := X) q
  have f1 : ∀ {Q : DK} {h : DHp}, nFld fc_many "many" (.obj "Events" (evD n cs fs)) h Q ↔ Q (.int n) h := fld_eq (by decide) rfl
  have f2 : ∀ {Q : DK} {h : DHp}, nFld fc_causes "causes" (.obj "Events" (evD n cs fs)) h Q ↔ Q (.tup (prs cs)) h := fld_eq (by decide) rfl
  have f3 : ∀ {Q : DK} {h : DHp}, nFld fc_conflicts "conflicts" (.obj "Events" (evD n cs fs)) h Q ↔ Q (.tup (prs fs)) h := fld_eq (by decide) rfl
  simp only [tb_is_state, startD, sSeq, sNil, sIf, sRet, sRetN, sSet, sAsg, sExpr, sNever, sFor, sNox, sBrk, sCont, sFldD, sAug, sAugS, dVar, dC, dOp, dI0, dII, dNeg, dInv, dAndV, dOrV, dNotV, dTst, dTru, dAnd, dOr, dNot, dIfE, dChn, dCall, dCallK, dMake, aNil, aCons, dTup, dLst, dLstH, dFldC, dCB, dBM, tgN, tgSub, iL, iT, iR1, iR2, DEnds.xx, dLc, dLcH, dYes, dSl, oNon, oSome, nI2, nTup, nLst, nLstH, mApp, wipeD, dIn, dIsN, dNotN, dAddH, dMulH, tru_bl, tru_int, add_int, add_tup, mul_int, len_tup, len_lst, len_fz, ne_int, eq_int, ne_bl, eq_bl, int_int, int_bl, ty_end, asL_lst, asL_fz, asS_tup, asS_lst, asS_fz, tgs_cons_eq, tgs_nil_eq, tg_tup_eq, tg_lst_eq, at_end, set_end, asS_end, asL_end, at_pre, set_pre, ty_pre, dTupRev, List.getElem?_cons_zero, List.getElem?_cons_succ, Option.some.injEq, exists_eq_left', exists_eq_left, exists_and_left, exists_and_right, and_assoc, D.int.injEq, D.bl.injEq, D.str.injEq, D.tup.injEq, D.lst.injEq, D.fz.injEq, D.ref.injEq, HB.lst.injEq, List.cons.injEq, and_true, true_and, List.set_cons_zero, List.set_cons_succ, List.map_cons, List.map_nil, List.length_cons, List.length_nil, Nat.reduceAdd, Nat.reduceSub, Nat.sub_self, Nat.zero_add, List.replicate_zero, List.replicate_succ, List.append_nil, List.cons_append, List.nil_append, decide_eq_true_eq, decide_eq_false_iff_not, Bool.not_eq_true', Bool.not_eq_false', Bool.true_eq_false, Bool.false_eq_true, false_implies, forall_const, true_implies, reduceCtorEq, and_false, false_and, Bool.not_true, Bool.not_false, if_true, if_false, f1, f2, f3]
  refine ⟨d, n, rfl, pl, _, rfl, fun hb => ?_, fun hb => ?_⟩
  · have : okB n cs fs d = false := by
      cases d <;> first | rfl | (show (subs _ _ _ && _) = false; rw [show subs _ _ _ = false from hb]; rfl)
    rw [this] at q'; exact q'
  · cases d with
    | tup l =>
      obtain ⟨ns, rfl, hb2⟩ := subs_nats l (-1) (by omega) hb
      have hok := okB_nats (cs := cs) (fs := fs) hb
      refine ⟨ns, rfl, fun x hx => by have := hb2 x hx; omega, ?_⟩
      refine forW_inv (prs cs) (fun i σ h' => h' = h ∧ (cs.take i).all (gdC (maskN ns)) = true ∧ ∃ o o2, σ = [some (.obj "Events" (evD n cs fs)), some (.tup (nats ns)), some (.int (maskN ns : Nat)), o, o2]) ⟨rfl, rfl, none, none, rfl⟩ (fun _ _ _ _ _ => trivial) ?_ ?_
      · rintro i x σ h' N hx ⟨rfl, ha, o, o2, rfl⟩ hN
        obtain ⟨p, hp, rfl, ht, hd, hm⟩ := get_map hx
        simp only [prN, sSeq, sNil, sIf, sRet, sRetN, sSet, sAsg, sExpr, sNever, sFor, sNox, sBrk, sCont, sFldD, sAug, sAugS, dVar, dC, dOp, dI0, dII, dNeg, dInv, dAndV, dOrV, dNotV, dTst, dTru, dAnd, dOr, dNot, dIfE, dChn, dCall, dCallK, dMake, aNil, aCons, dTup, dLst, dLstH, dFldC, dCB, dBM, tgN, tgSub, iL, iT, iR1, iR2, DEnds.xx, dLc, dLcH, dYes, dSl, oNon, oSome, nI2, nTup, nLst, nLstH, mApp, wipeD, dIn, dIsN, dNotN, dAddH, dMulH, tru_bl, tru_int, add_int, add_tup, mul_int, len_tup, len_lst, len_fz, ne_int, eq_int, ne_bl, eq_bl, int_int, int_bl, ty_end, asL_lst, asL_fz, asS_tup, asS_lst, asS_fz, tgs_cons_eq, tgs_nil_eq, tg_tup_eq, tg_lst_eq, at_end, set_end, asS_end, asL_end, at_pre, set_pre, ty_pre, dTupRev, List.getElem?_cons_zero, List.getElem?_cons_succ, Option.some.injEq, exists_eq_left', exists_eq_left, exists_and_left, exists_and_right, and_assoc, D.int.injEq, D.bl.injEq, D.str.injEq, D.tup.injEq, D.lst.injEq, D.fz.injEq, D.ref.injEq, HB.lst.injEq, List.cons.injEq, and_true, true_and, List.set_cons_zero, List.set_cons_succ, List.map_cons, List.map_nil, List.length_cons, List.length_nil, Nat.reduceAdd, Nat.reduceSub, Nat.sub_self, Nat.zero_add, List.replicate_zero, List.replicate_succ, List.append_nil, List.cons_append, List.nil_append, decide_eq_true_eq, decide_eq_false_iff_not, Bool.not_eq_true', Bool.not_eq_false', Bool.true_eq_false, Bool.false_eq_true, false_implies, forall_const, true_implies, reduceCtorEq, and_false, false_and, Bool.not_true, Bool.not_false, if_true, if_false]
        simp only [Int.toNat_natCast, bBit, bit_tru]
        have good : gdC (maskN ns) p = true → N [some (.obj "Events" (evD n cs fs)), some (.tup (nats ns)), some (.int (maskN ns : Nat)), some (.int (p.1 : Int)), some (.int (p.2 : Int))] h' := fun g => hN _ _ ⟨rfl, all_take ha ht g, _, _, rfl⟩
        refine ⟨by omega, fun t2 => ⟨by omega, fun t1 => ?_, fun t1 => good (by simp [gdC, t1])⟩, fun t2 => good (by simp [gdC, t2])⟩
        rw [hok, all_bad hm (by simp [gdC, t1, t2])] at q'
        exact q'
      · rintro σ h' ⟨rfl, ha, o, o2, rfl⟩
        have ha' : cs.all (gdC (maskN ns)) = true := by rw [prs_len, List.take_length] at ha; exact ha
        rw [ha', Bool.true_and] at hok
        simp only [sSeq, sNil, sIf, sRet, sRetN, sSet, sAsg, sExpr, sNever, sFor, sNox, sBrk, sCont, sFldD, sAug, sAugS, dVar, dC, dOp, dI0, dII, dNeg, dInv, dAndV, dOrV, dNotV, dTst, dTru, dAnd, dOr, dNot, dIfE, dChn, dCall, dCallK, dMake, aNil, aCons, dTup, dLst, dLstH, dFldC, dCB, dBM, tgN, tgSub, iL, iT, iR1, iR2, DEnds.xx, dLc, dLcH, dYes, dSl, oNon, oSome, nI2, nTup, nLst, nLstH, mApp, wipeD, dIn, dIsN, dNotN, dAddH, dMulH, tru_bl, tru_int, add_int, add_tup, mul_int, len_tup, len_lst, len_fz, ne_int, eq_int, ne_bl, eq_bl, int_int, int_bl, ty_end, asL_lst, asL_fz, asS_tup, asS_lst, asS_fz, tgs_cons_eq, tgs_nil_eq, tg_tup_eq, tg_lst_eq, at_end, set_end, asS_end, asL_end, at_pre, set_pre, ty_pre, dTupRev, List.getElem?_cons_zero, List.getElem?_cons_succ, Option.some.injEq, exists_eq_left', exists_eq_left, exists_and_left, exists_and_right, and_assoc, D.int.injEq, D.bl.injEq, D.str.injEq, D.tup.injEq, D.lst.injEq, D.fz.injEq, D.ref.injEq, HB.lst.injEq, List.cons.injEq, and_true, true_and, List.set_cons_zero, List.set_cons_succ, List.map_cons, List.map_nil, List.length_cons, List.length_nil, Nat.reduceAdd, Nat.reduceSub, Nat.sub_self, Nat.zero_add, List.replicate_zero, List.replicate_succ, List.append_nil, List.cons_append, List.nil_append, decide_eq_true_eq, decide_eq_false_iff_not, Bool.not_eq_true', Bool.not_eq_false', Bool.true_eq_false, Bool.false_eq_true, false_implies, forall_const, true_implies, reduceCtorEq, and_false, false_and, Bool.not_true, Bool.not_false, if_true, if_false, f3]
        refine forW_inv (prs fs) (fun i σ h'' => h'' = h' ∧ (fs.take i).all (gdF (maskN ns)) = true ∧ ∃ o o2, σ = [some (.obj "Events" (evD n cs fs)), some (.tup (nats ns)), some (.int (maskN ns : Nat)), o, o2]) ⟨rfl, rfl, _, _, rfl⟩ (fun _ _ _ _ _ => trivial) ?_ ?_
        · rintro i x σ h' N hx ⟨rfl, ha, o, o2, rfl⟩ hN
          obtain ⟨p, hp, rfl, ht, hd, hm⟩ := get_map hx
          simp only [prN, sSeq, sNil, sIf, sRet, sRetN, sSet, sAsg, sExpr, sNever, sFor, sNox, sBrk, sCont, sFldD, sAug, sAugS, dVar, dC, dOp, dI0, dII, dNeg, dInv, dAndV, dOrV, dNotV, dTst, dTru, dAnd, dOr, dNot, dIfE, dChn, dCall, dCallK, dMake, aNil, aCons, dTup, dLst, dLstH, dFldC, dCB, dBM, tgN, tgSub, iL, iT, iR1, iR2, DEnds.xx, dLc, dLcH, dYes, dSl, oNon, oSome, nI2, nTup, nLst, nLstH, mApp, wipeD, dIn, dIsN, dNotN, dAddH, dMulH, tru_bl, tru_int, add_int, add_tup, mul_int, len_tup, len_lst, len_fz, ne_int, eq_int, ne_bl, eq_bl, int_int, int_bl, ty_end, asL_lst, asL_fz, asS_tup, asS_lst, asS_fz, tgs_cons_eq, tgs_nil_eq, tg_tup_eq, tg_lst_eq, at_end, set_end, asS_end, asL_end, at_pre, set_pre, ty_pre, dTupRev, List.getElem?_cons_zero, List.getElem?_cons_succ, Option.some.injEq, exists_eq_left', exists_eq_left, exists_and_left, exists_and_right, and_assoc, D.int.injEq, D.bl.injEq, D.str.injEq, D.tup.injEq, D.lst.injEq, D.fz.injEq, D.ref.injEq, HB.lst.injEq, List.cons.injEq, and_true, true_and, List.set_cons_zero, List.set_cons_succ, List.map_cons, List.map_nil, List.length_cons, List.length_nil, Nat.reduceAdd, Nat.reduceSub, Nat.sub_self, Nat.zero_add, List.replicate_zero, List.replicate_succ, List.append_nil, List.cons_append, List.nil_append, decide_eq_true_eq, decide_eq_false_iff_not, Bool.not_eq_true', Bool.not_eq_false', Bool.true_eq_false, Bool.false_eq_true, false_implies, forall_const, true_implies, reduceCtorEq, and_false, false_and, Bool.not_true, Bool.not_false, if_true, if_false]
          simp only [Int.toNat_natCast, bBit, bit_tru]
          have good : gdF (maskN ns) p = true → N [some (.obj "Events" (evD n cs fs)), some (.tup (nats ns)), some (.int (maskN ns : Nat)), some (.int (p.1 : Int)), some (.int (p.2 : Int))] h' := fun g => hN _ _ ⟨rfl, all_take ha ht g, _, _, rfl⟩
          refine ⟨by omega, fun t2 => ⟨by omega, fun t1 => ?_, fun t1 => good (by simp [gdF, t1])⟩, fun t2 => good (by simp [gdF, t2])⟩
          rw [hok, all_bad hm (by simp [gdF, t1, t2])] at q'
          exact q'
        · rintro σ h' ⟨rfl, ha, o, o2, rfl⟩
          have ha2 : fs.all (gdF (maskN ns)) = true := by rw [prs_len, List.take_length] at ha; exact ha
          rw [hok, ha2] at q'
          simpa only [sSeq, sNil, sIf, sRet, sRetN, sSet, sAsg, sExpr, sNever, sFor, sNox, sBrk, sCont, sFldD, sAug, sAugS, dVar, dC, dOp, dI0, dII, dNeg, dInv, dAndV, dOrV, dNotV, dTst, dTru, dAnd, dOr, dNot, dIfE, dChn, dCall, dCallK, dMake, aNil, aCons, dTup, dLst, dLstH, dFldC, dCB, dBM, tgN, tgSub, iL, iT, iR1, iR2, DEnds.xx, dLc, dLcH, dYes, dSl, oNon, oSome, nI2, nTup, nLst, nLstH, mApp, wipeD, dIn, dIsN, dNotN, dAddH, dMulH, tru_bl, tru_int, add_int, add_tup, mul_int, len_tup, len_lst, len_fz, ne_int, eq_int, ne_bl, eq_bl, int_int, int_bl, ty_end, asL_lst, asL_fz, asS_tup, asS_lst, asS_fz, tgs_cons_eq, tgs_nil_eq, tg_tup_eq, tg_lst_eq, at_end, set_end, asS_end, asL_end, at_pre, set_pre, ty_pre, dTupRev, List.getElem?_cons_zero, List.getElem?_cons_succ, Option.some.injEq, exists_eq_left', exists_eq_left, exists_and_left, exists_and_right, and_assoc, D.int.injEq, D.bl.injEq, D.str.injEq, D.tup.injEq, D.lst.injEq, D.fz.injEq, D.ref.injEq, HB.lst.injEq, List.cons.injEq, and_true, true_and, List.set_cons_zero, List.set_cons_succ, List.map_cons, List.map_nil, List.length_cons, List.length_nil, Nat.reduceAdd, Nat.reduceSub, Nat.sub_self, Nat.zero_add, List.replicate_zero, List.replicate_succ, List.append_nil, List.cons_append, List.nil_append, decide_eq_true_eq, decide_eq_false_iff_not, Bool.not_eq_true', Bool.not_eq_false', Bool.true_eq_false, Bool.false_eq_true, false_implies, forall_const, true_implies, reduceCtorEq, and_false, false_and, Bool.not_true, Bool.not_false, if_true, if_false] using q'
    | _ => cases hb
end L2.MW.K47

namespace L2.MW.K47
open PySem PySem.Spec PyProof.Rows L2 L2.MW
theorem b2D_nat (b : Bool) : b2D b = if b then 1 else 0 := rfl
theorem rd_law_cell (ds : List D) (h : DHp) (X : DX) (Q : DK) (hds : ds.length = 2) (c : ct__law_cell ds h X Q) : tb__law_cell (endsD h X Q) (startD 2 ds) h := by
  obtain ⟨ns, k, rfl, hk, hl, q⟩ := c
  simp only [tb__law_cell, startD, sSeq, sNil, sIf, sRet, sRetN, sSet, sAsg, sExpr, sNever, sFor, sNox, sBrk, sCont, sFldD, sAug, sAugS, dVar, dC, dOp, dI0, dII, dNeg, dInv, dAndV, dOrV, dNotV, dTst, dTru, dAnd, dOr, dNot, dIfE, dChn, dCall, dCallK, dMake, aNil, aCons, dTup, dLst, dLstH, dFldC, dCB, dBM, tgN, tgSub, iL, iT, iR1, iR2, DEnds.xx, dLc, dLcH, dYes, dSl, oNon, oSome, nI2, nTup, nLst, nLstH, mApp, wipeD, dIn, dIsN, dNotN, dAddH, dMulH, tru_bl, tru_int, add_int, add_tup, mul_int, len_tup, len_lst, len_fz, ne_int, eq_int, ne_bl, eq_bl, int_int, int_bl, ty_end, asL_lst, asL_fz, asS_tup, asS_lst, asS_fz, tgs_cons_eq, tgs_nil_eq, tg_tup_eq, tg_lst_eq, at_end, set_end, asS_end, asL_end, at_pre, set_pre, ty_pre, dTupRev, List.getElem?_cons_zero, List.getElem?_cons_succ, Option.some.injEq, exists_eq_left', exists_eq_left, exists_and_left, exists_and_right, and_assoc, D.int.injEq, D.bl.injEq, D.str.injEq, D.tup.injEq, D.lst.injEq, D.fz.injEq, D.ref.injEq, HB.lst.injEq, List.cons.injEq, and_true, true_and, List.set_cons_zero, List.set_cons_succ, List.map_cons, List.map_nil, List.length_cons, List.length_nil, Nat.reduceAdd, Nat.reduceSub, Nat.sub_self, Nat.zero_add, List.replicate_zero, List.replicate_succ, List.append_nil, List.cons_append, List.nil_append, decide_eq_true_eq, decide_eq_false_iff_not, Bool.not_eq_true', Bool.not_eq_false', Bool.true_eq_false, Bool.false_eq_true, false_implies, forall_const, true_implies, reduceCtorEq, and_false, false_and, Bool.not_true, Bool.not_false, if_true, if_false]
  refine ⟨fun hlt => ?_, fun _ => rt_keep (q 0)⟩
  obtain ⟨j, rfl⟩ := Int.eq_ofNat_of_zero_le hk
  have hj : j < ns.length := by rw [List.length_map] at hlt; omega
  have e : atI (ns.map D.int) ((j : Nat) : Int) = some (.int ns[j]) := by
    refine atI_nat ?_
    rw [List.getElem?_map, List.getElem?_eq_getElem hj]; rfl
  refine ix_of rfl e ?_
  simp only [sSeq, sNil, sIf, sRet, sRetN, sSet, sAsg, sExpr, sNever, sFor, sNox, sBrk, sCont, sFldD, sAug, sAugS, dVar, dC, dOp, dI0, dII, dNeg, dInv, dAndV, dOrV, dNotV, dTst, dTru, dAnd, dOr, dNot, dIfE, dChn, dCall, dCallK, dMake, aNil, aCons, dTup, dLst, dLstH, dFldC, dCB, dBM, tgN, tgSub, iL, iT, iR1, iR2, DEnds.xx, dLc, dLcH, dYes, dSl, oNon, oSome, nI2, nTup, nLst, nLstH, mApp, wipeD, dIn, dIsN, dNotN, dAddH, dMulH, tru_bl, tru_int, add_int, add_tup, mul_int, len_tup, len_lst, len_fz, ne_int, eq_int, ne_bl, eq_bl, int_int, int_bl, ty_end, asL_lst, asL_fz, asS_tup, asS_lst, asS_fz, tgs_cons_eq, tgs_nil_eq, tg_tup_eq, tg_lst_eq, at_end, set_end, asS_end, asL_end, at_pre, set_pre, ty_pre, dTupRev, List.getElem?_cons_zero, List.getElem?_cons_succ, Option.some.injEq, exists_eq_left', exists_eq_left, exists_and_left, exists_and_right, and_assoc, D.int.injEq, D.bl.injEq, D.str.injEq, D.tup.injEq, D.lst.injEq, D.fz.injEq, D.ref.injEq, HB.lst.injEq, List.cons.injEq, and_true, true_and, List.set_cons_zero, List.set_cons_succ, List.map_cons, List.map_nil, List.length_cons, List.length_nil, Nat.reduceAdd, Nat.reduceSub, Nat.sub_self, Nat.zero_add, List.replicate_zero, List.replicate_succ, List.append_nil, List.cons_append, List.nil_append, decide_eq_true_eq, decide_eq_false_iff_not, Bool.not_eq_true', Bool.not_eq_false', Bool.true_eq_false, Bool.false_eq_true, false_implies, forall_const, true_implies, reduceCtorEq, and_false, false_and, Bool.not_true, Bool.not_false, if_true, if_false]
  exact rt_keep (q _)
theorem nats_app {r : List Nat} {v : Int} (h : 0 ≤ v) : nats r ++ [.int v] = nats (r ++ [v.toNat]) := by
  unfold nats
  rw [List.map_append]
  show _ = _ ++ [D.int ((v.toNat : Nat) : Int)]
  rw [Int.toNat_of_nonneg h]
structure RowI (m l : Nat) (r : List Nat) (i : Nat) : Prop where
  len : r.length = i
  bd : ∀ x ∈ r, x < l
theorem RowI.app {m l : Nat} {r : List Nat} {i : Nat} (R : RowI m l r i) {v : Int} (h0 : 0 ≤ v) (h1 : v < l) : RowI m l (r ++ [v.toNat]) (i + 1) := by
  refine ⟨by rw [List.length_append, R.len]; rfl, fun x hx => ?_⟩
  rcases List.mem_append.mp hx with hx | hx
  · exact R.bd x hx
  · rw [List.mem_singleton.mp hx]; omega
theorem rd_law_row (ds : List D) (h : DHp) (X : DX) (Q : DK) (hds : ds.length = 4) (c : ct__law_row ds h X Q) : tb__law_row (endsD h X Q) (startD 7 ds) h := by
  obtain ⟨ns, a, m, l, rfl, hl, hm, l0, l1, q⟩ := c
  have cp : CPow 10 18 := ⟨by decide, by decide, by decide⟩
  simp only [tb__law_row, startD, sSeq, sNil, sIf, sRet, sRetN, sSet, sAsg, sExpr, sNever, sFor, sNox, sBrk, sCont, sFldD, sAug, sAugS, dVar, dC, dOp, dI0, dII, dNeg, dInv, dAndV, dOrV, dNotV, dTst, dTru, dAnd, dOr, dNot, dIfE, dChn, dCall, dCallK, dMake, aNil, aCons, dTup, dLst, dLstH, dFldC, dCB, dBM, tgN, tgSub, iL, iT, iR1, iR2, DEnds.xx, dLc, dLcH, dYes, dSl, oNon, oSome, nI2, nTup, nLst, nLstH, mApp, wipeD, dIn, dIsN, dNotN, dAddH, dMulH, tru_bl, tru_int, add_int, add_tup, mul_int, len_tup, len_lst, len_fz, ne_int, eq_int, ne_bl, eq_bl, int_int, int_bl, ty_end, asL_lst, asL_fz, asS_tup, asS_lst, asS_fz, tgs_cons_eq, tgs_nil_eq, tg_tup_eq, tg_lst_eq, at_end, set_end, asS_end, asL_end, at_pre, set_pre, ty_pre, dTupRev, List.getElem?_cons_zero, List.getElem?_cons_succ, Option.some.injEq, exists_eq_left', exists_eq_left, exists_and_left, exists_and_right, and_assoc, D.int.injEq, D.bl.injEq, D.str.injEq, D.tup.injEq, D.lst.injEq, D.fz.injEq, D.ref.injEq, HB.lst.injEq, List.cons.injEq, and_true, true_and, List.set_cons_zero, List.set_cons_succ, List.map_cons, List.map_nil, List.length_cons, List.length_nil, Nat.reduceAdd, Nat.reduceSub, Nat.sub_self, Nat.zero_add, List.replicate_zero, List.replicate_succ, List.append_nil, List.cons_append, List.nil_append, decide_eq_true_eq, decide_eq_false_iff_not, Bool.not_eq_true', Bool.not_eq_false', Bool.true_eq_false, Bool.false_eq_true, false_implies, forall_const, true_implies, reduceCtorEq, and_false, false_and, Bool.not_true, Bool.not_false, if_true, if_false]
  refine ⟨small (by decide), ns, a, rfl, by omega, hl, fun left => ?_⟩
  have fin : ∀ {r : List Nat}, RowI m l r m → (endsD h X Q).rt (.ref h.length) (h ++ [.lst (nats r)]) := fun R => rt_lst Bds_nats (q _ R.len R.bd)
  simp only [tru_bl, tru_int, add_int, add_tup, mul_int, len_tup, len_lst, len_fz, ne_int, eq_int, ne_bl, eq_bl, int_int, int_bl, ty_end, asL_lst, asL_fz, asS_tup, asS_lst, asS_fz, tgs_cons_eq, tgs_nil_eq, tg_tup_eq, tg_lst_eq, at_end, set_end, asS_end, asL_end, at_pre, set_pre, ty_pre, dTupRev, List.getElem?_cons_zero, List.getElem?_cons_succ, Option.some.injEq, exists_eq_left', exists_eq_left, exists_and_left, exists_and_right, and_assoc, D.int.injEq, D.bl.injEq, D.str.injEq, D.tup.injEq, D.lst.injEq, D.fz.injEq, D.ref.injEq, HB.lst.injEq, List.cons.injEq, and_true, true_and, List.set_cons_zero, List.set_cons_succ, List.map_cons, List.map_nil, List.length_cons, List.length_nil, Nat.reduceAdd, Nat.reduceSub, Nat.sub_self, Nat.zero_add, List.replicate_zero, List.replicate_succ, List.append_nil, List.cons_append, List.nil_append, decide_eq_true_eq, decide_eq_false_iff_not, Bool.not_eq_true', Bool.not_eq_false', Bool.true_eq_false, Bool.false_eq_true, false_implies, forall_const, true_implies, reduceCtorEq, and_false, false_and, Bool.not_true, Bool.not_false, if_true, if_false]
  refine ⟨cp, fun _ => ⟨cp, rgOk (by omega), ?_⟩, fun _ => ⟨by decide, rgOk (by omega), ?_⟩⟩
  · rw [Int.toNat_natCast]
    refine forW_inv (rgD 0 m) (fun i σ h' => ∃ lf o r, RowI m l r i ∧ h' = h ++ [.lst (nats r)] ∧ σ = [some (.fz (ns.map D.int)), some (.int a), some (.int m), some (.int l), some (.ref h.length), some (.int lf), o]) ⟨_, _, [], ⟨rfl, fun x hx => nomatch hx⟩, rfl, rfl⟩ (fun _ _ _ _ _ => trivial) ?_ ?_
    · rintro i x σ h' N hx ⟨lf, o, r, R, rfl, rfl⟩ hN
      obtain ⟨rfl, hi⟩ := rg_get hx
      simp only [sSeq, sNil, sIf, sRet, sRetN, sSet, sAsg, sExpr, sNever, sFor, sNox, sBrk, sCont, sFldD, sAug, sAugS, dVar, dC, dOp, dI0, dII, dNeg, dInv, dAndV, dOrV, dNotV, dTst, dTru, dAnd, dOr, dNot, dIfE, dChn, dCall, dCallK, dMake, aNil, aCons, dTup, dLst, dLstH, dFldC, dCB, dBM, tgN, tgSub, iL, iT, iR1, iR2, DEnds.xx, dLc, dLcH, dYes, dSl, oNon, oSome, nI2, nTup, nLst, nLstH, mApp, wipeD, dIn, dIsN, dNotN, dAddH, dMulH, tru_bl, tru_int, add_int, add_tup, mul_int, len_tup, len_lst, len_fz, ne_int, eq_int, ne_bl, eq_bl, int_int, int_bl, ty_end, asL_lst, asL_fz, asS_tup, asS_lst, asS_fz, tgs_cons_eq, tgs_nil_eq, tg_tup_eq, tg_lst_eq, at_end, set_end, asS_end, asL_end, at_pre, set_pre, ty_pre, dTupRev, List.getElem?_cons_zero, List.getElem?_cons_succ, Option.some.injEq, exists_eq_left', exists_eq_left, exists_and_left, exists_and_right, and_assoc, D.int.injEq, D.bl.injEq, D.str.injEq, D.tup.injEq, D.lst.injEq, D.fz.injEq, D.ref.injEq, HB.lst.injEq, List.cons.injEq, and_true, true_and, List.set_cons_zero, List.set_cons_succ, List.map_cons, List.map_nil, List.length_cons, List.length_nil, Nat.reduceAdd, Nat.reduceSub, Nat.sub_self, Nat.zero_add, List.replicate_zero, List.replicate_succ, List.append_nil, List.cons_append, List.nil_append, decide_eq_true_eq, decide_eq_false_iff_not, Bool.not_eq_true', Bool.not_eq_false', Bool.true_eq_false, Bool.false_eq_true, false_implies, forall_const, true_implies, reduceCtorEq, and_false, false_and, Bool.not_true, Bool.not_false, if_true, if_false]
      have z0 : 0 ≤ lf % (l : Int) := Int.emod_nonneg _ (by omega)
      have z1 : lf % (l : Int) < l := Int.emod_lt_of_pos _ (by omega)
      refine ⟨by omega, smallL (by rw [nats_len, R.len]; omega), ⟨by omega, by omega⟩, hN _ _ ⟨_, _, _, R.app z0 z1, ?_, rfl⟩⟩
      rw [nats_app z0]
    · rintro σ h' ⟨lf, o, r, R, rfl, rfl⟩
      simp only [sSeq, sNil, sIf, sRet, sRetN, sSet, sAsg, sExpr, sNever, sFor, sNox, sBrk, sCont, sFldD, sAug, sAugS, dVar, dC, dOp, dI0, dII, dNeg, dInv, dAndV, dOrV, dNotV, dTst, dTru, dAnd, dOr, dNot, dIfE, dChn, dCall, dCallK, dMake, aNil, aCons, dTup, dLst, dLstH, dFldC, dCB, dBM, tgN, tgSub, iL, iT, iR1, iR2, DEnds.xx, dLc, dLcH, dYes, dSl, oNon, oSome, nI2, nTup, nLst, nLstH, mApp, wipeD, dIn, dIsN, dNotN, dAddH, dMulH, tru_bl, tru_int, add_int, add_tup, mul_int, len_tup, len_lst, len_fz, ne_int, eq_int, ne_bl, eq_bl, int_int, int_bl, ty_end, asL_lst, asL_fz, asS_tup, asS_lst, asS_fz, tgs_cons_eq, tgs_nil_eq, tg_tup_eq, tg_lst_eq, at_end, set_end, asS_end, asL_end, at_pre, set_pre, ty_pre, dTupRev, List.getElem?_cons_zero, List.getElem?_cons_succ, Option.some.injEq, exists_eq_left', exists_eq_left, exists_and_left, exists_and_right, and_assoc, D.int.injEq, D.bl.injEq, D.str.injEq, D.tup.injEq, D.lst.injEq, D.fz.injEq, D.ref.injEq, HB.lst.injEq, List.cons.injEq, and_true, true_and, List.set_cons_zero, List.set_cons_succ, List.map_cons, List.map_nil, List.length_cons, List.length_nil, Nat.reduceAdd, Nat.reduceSub, Nat.sub_self, Nat.zero_add, List.replicate_zero, List.replicate_succ, List.append_nil, List.cons_append, List.nil_append, decide_eq_true_eq, decide_eq_false_iff_not, Bool.not_eq_true', Bool.not_eq_false', Bool.true_eq_false, Bool.false_eq_true, false_implies, forall_const, true_implies, reduceCtorEq, and_false, false_and, Bool.not_true, Bool.not_false, if_true, if_false]
      rw [rg_len] at R
      exact fin R
  · rw [Int.toNat_natCast]
    refine forW_inv (rgD 0 m) (fun i σ h' => ∃ lf o r, RowI m l r i ∧ h' = h ++ [.lst (nats r)] ∧ σ = [some (.fz (ns.map D.int)), some (.int a), some (.int m), some (.int l), some (.ref h.length), some (.int lf), o]) ⟨_, _, [], ⟨rfl, fun x hx => nomatch hx⟩, rfl, rfl⟩ (fun _ _ _ _ _ => trivial) ?_ ?_
    · rintro i x σ h' N hx ⟨lf, o, r, R, rfl, rfl⟩ hN
      obtain ⟨rfl, hi⟩ := rg_get hx
      simp only [sSeq, sNil, sIf, sRet, sRetN, sSet, sAsg, sExpr, sNever, sFor, sNox, sBrk, sCont, sFldD, sAug, sAugS, dVar, dC, dOp, dI0, dII, dNeg, dInv, dAndV, dOrV, dNotV, dTst, dTru, dAnd, dOr, dNot, dIfE, dChn, dCall, dCallK, dMake, aNil, aCons, dTup, dLst, dLstH, dFldC, dCB, dBM, tgN, tgSub, iL, iT, iR1, iR2, DEnds.xx, dLc, dLcH, dYes, dSl, oNon, oSome, nI2, nTup, nLst, nLstH, mApp, wipeD, dIn, dIsN, dNotN, dAddH, dMulH, tru_bl, tru_int, add_int, add_tup, mul_int, len_tup, len_lst, len_fz, ne_int, eq_int, ne_bl, eq_bl, int_int, int_bl, ty_end, asL_lst, asL_fz, asS_tup, asS_lst, asS_fz, tgs_cons_eq, tgs_nil_eq, tg_tup_eq, tg_lst_eq, at_end, set_end, asS_end, asL_end, at_pre, set_pre, ty_pre, dTupRev, List.getElem?_cons_zero, List.getElem?_cons_succ, Option.some.injEq, exists_eq_left', exists_eq_left, exists_and_left, exists_and_right, and_assoc, D.int.injEq, D.bl.injEq, D.str.injEq, D.tup.injEq, D.lst.injEq, D.fz.injEq, D.ref.injEq, HB.lst.injEq, List.cons.injEq, and_true, true_and, List.set_cons_zero, List.set_cons_succ, List.map_cons, List.map_nil, List.length_cons, List.length_nil, Nat.reduceAdd, Nat.reduceSub, Nat.sub_self, Nat.zero_add, List.replicate_zero, List.replicate_succ, List.append_nil, List.cons_append, List.nil_append, decide_eq_true_eq, decide_eq_false_iff_not, Bool.not_eq_true', Bool.not_eq_false', Bool.true_eq_false, Bool.false_eq_true, false_implies, forall_const, true_implies, reduceCtorEq, and_false, false_and, Bool.not_true, Bool.not_false, if_true, if_false]
      refine ⟨ns, _, rfl, by omega, hl, fun j => ?_⟩
      simp only [sSeq, sNil, sIf, sRet, sRetN, sSet, sAsg, sExpr, sNever, sFor, sNox, sBrk, sCont, sFldD, sAug, sAugS, dVar, dC, dOp, dI0, dII, dNeg, dInv, dAndV, dOrV, dNotV, dTst, dTru, dAnd, dOr, dNot, dIfE, dChn, dCall, dCallK, dMake, aNil, aCons, dTup, dLst, dLstH, dFldC, dCB, dBM, tgN, tgSub, iL, iT, iR1, iR2, DEnds.xx, dLc, dLcH, dYes, dSl, oNon, oSome, nI2, nTup, nLst, nLstH, mApp, wipeD, dIn, dIsN, dNotN, dAddH, dMulH, tru_bl, tru_int, add_int, add_tup, mul_int, len_tup, len_lst, len_fz, ne_int, eq_int, ne_bl, eq_bl, int_int, int_bl, ty_end, asL_lst, asL_fz, asS_tup, asS_lst, asS_fz, tgs_cons_eq, tgs_nil_eq, tg_tup_eq, tg_lst_eq, at_end, set_end, asS_end, asL_end, at_pre, set_pre, ty_pre, dTupRev, List.getElem?_cons_zero, List.getElem?_cons_succ, Option.some.injEq, exists_eq_left', exists_eq_left, exists_and_left, exists_and_right, and_assoc, D.int.injEq, D.bl.injEq, D.str.injEq, D.tup.injEq, D.lst.injEq, D.fz.injEq, D.ref.injEq, HB.lst.injEq, List.cons.injEq, and_true, true_and, List.set_cons_zero, List.set_cons_succ, List.map_cons, List.map_nil, List.length_cons, List.length_nil, Nat.reduceAdd, Nat.reduceSub, Nat.sub_self, Nat.zero_add, List.replicate_zero, List.replicate_succ, List.append_nil, List.cons_append, List.nil_append, decide_eq_true_eq, decide_eq_false_iff_not, Bool.not_eq_true', Bool.not_eq_false', Bool.true_eq_false, Bool.false_eq_true, false_implies, forall_const, true_implies, reduceCtorEq, and_false, false_and, Bool.not_true, Bool.not_false, if_true, if_false]
      have z0 : ∀ y : Int, 0 ≤ y % (l : Int) := fun y => Int.emod_nonneg _ (by omega)
      have z1 : ∀ y : Int, y % (l : Int) < l := fun y => Int.emod_lt_of_pos _ (by omega)
      refine ⟨.inr ⟨by decide, by decide⟩, by decide, ?_⟩
      refine ⟨.inr ⟨by decide, by decide⟩, .inr ⟨by decide, by decide⟩, by decide, ⟨by decide, by decide⟩, by omega, smallL (by rw [nats_len, R.len]; omega), hN _ _ ⟨_, _, _, ?_, congrArg (fun z => h ++ [HB.lst z]) (nats_app (z0 _)), rfl⟩⟩
      exact R.app (z0 _) (z1 _)
    · rintro σ h' ⟨lf, o, r, R, rfl, rfl⟩
      simp only [sSeq, sNil, sIf, sRet, sRetN, sSet, sAsg, sExpr, sNever, sFor, sNox, sBrk, sCont, sFldD, sAug, sAugS, dVar, dC, dOp, dI0, dII, dNeg, dInv, dAndV, dOrV, dNotV, dTst, dTru, dAnd, dOr, dNot, dIfE, dChn, dCall, dCallK, dMake, aNil, aCons, dTup, dLst, dLstH, dFldC, dCB, dBM, tgN, tgSub, iL, iT, iR1, iR2, DEnds.xx, dLc, dLcH, dYes, dSl, oNon, oSome, nI2, nTup, nLst, nLstH, mApp, wipeD, dIn, dIsN, dNotN, dAddH, dMulH, tru_bl, tru_int, add_int, add_tup, mul_int, len_tup, len_lst, len_fz, ne_int, eq_int, ne_bl, eq_bl, int_int, int_bl, ty_end, asL_lst, asL_fz, asS_tup, asS_lst, asS_fz, tgs_cons_eq, tgs_nil_eq, tg_tup_eq, tg_lst_eq, at_end, set_end, asS_end, asL_end, at_pre, set_pre, ty_pre, dTupRev, List.getElem?_cons_zero, List.getElem?_cons_succ, Option.some.injEq, exists_eq_left', exists_eq_left, exists_and_left, exists_and_right, and_assoc, D.int.injEq, D.bl.injEq, D.str.injEq, D.tup.injEq, D.lst.injEq, D.fz.injEq, D.ref.injEq, HB.lst.injEq, List.cons.injEq, and_true, true_and, List.set_cons_zero, List.set_cons_succ, List.map_cons, List.map_nil, List.length_cons, List.length_nil, Nat.reduceAdd, Nat.reduceSub, Nat.sub_self, Nat.zero_add, List.replicate_zero, List.replicate_succ, List.append_nil, List.cons_append, List.nil_append, decide_eq_true_eq, decide_eq_false_iff_not, Bool.not_eq_true', Bool.not_eq_false', Bool.true_eq_false, Bool.false_eq_true, false_implies, forall_const, true_implies, reduceCtorEq, and_false, false_and, Bool.not_true, Bool.not_false, if_true, if_false]
      rw [rg_len] at R
      exact fin R
def cst (p : Nat × Nat) : Int × Int := ((p.1 : Int), (p.2 : Int))
theorem prs_cst (ps : List (Nat × Nat)) : prs ps = (ps.map cst).map prD := by unfold prs; rw [List.map_map]; rfl
theorem deq_pr (p q : Nat × Nat) : deq (prN p) (prN q) = decide (p = q) := by
  obtain ⟨a, b⟩ := p
  obtain ⟨c, d⟩ := q
  show PyData.eqv (.tuple [.int a, .int b]) (.tuple [.int c, .int d]) = _
  simp [PyData.eqv, PyData.eqvAll]
  congr 1 <;> (rw [Bool.eq_iff_iff]; simp; omega)
theorem sorted_prs {ps : List (Nat × Nat)} {qs : List (Int × Int)} (hp : qs.Perm (ps.map cst)) (hs : qs.Pairwise prLe) (nd : ps.Nodup) : ∃ rs : List (Nat × Nat), qs = rs.map cst ∧ rs.Perm ps ∧ rs.Pairwise ltP := by
  let un : Int × Int → Nat × Nat := fun q => (q.1.toNat, q.2.toNat)
  have un_cst : ∀ p, un (cst p) = p := fun p => by show ((p.1 : Int).toNat, (p.2 : Int).toNat) = p; simp
  have e : qs = (qs.map un).map cst := by
    rw [List.map_map]
    have : ∀ q ∈ qs, q = (cst ∘ un) q := fun q hq => by
      obtain ⟨p, _, rfl⟩ := List.mem_map.mp (hp.mem_iff.mp hq)
      show cst p = cst (un (cst p))
      rw [un_cst]
    conv => lhs; rw [← List.map_id qs]
    exact List.map_congr_left fun q hq => this q hq
  have p2 : (qs.map un).Perm ps := by
    have := hp.map un
    rw [List.map_map] at this
    have e2 : ps.map (un ∘ cst) = ps := by
      conv => rhs; rw [← List.map_id ps]
      exact List.map_congr_left fun p _ => un_cst p
    rwa [e2] at this
  refine ⟨qs.map un, e, p2, ?_⟩
  have nd2 : (qs.map un).Nodup := p2.nodup_iff.mpr nd
  rw [e, List.pairwise_map] at hs
  have both := List.Pairwise.and hs nd2
  refine both.imp fun {a b} hab => ?_
  obtain ⟨h1, h2⟩ := hab
  unfold prLe cst at h1
  unfold ltP
  have : a.1 = b.1 → a.2 ≠ b.2 := fun h h' => h2 (Prod.ext h h')
  omega
theorem mod_nat (x n : Nat) : ((x : Int) % (n : Int)) = ((x % n : Nat) : Int) := (Int.natCast_emod x n).symm
theorem div_nat (x n : Nat) : ((x : Int) / (n : Int)) = ((x / n : Nat) : Int) := (Int.natCast_ediv x n).symm
theorem div40 (x : Nat) : ((x : Int) / 40) = ((x / 40 : Nat) : Int) := div_nat x 40
theorem min_nat (a b : Nat) : (if (b : Int) < (a : Int) then (b : Int) else (a : Int)) = ((min a b : Nat) : Int) := by split <;> omega
theorem max_nat (a b : Nat) : (if (b : Int) > (a : Int) then (b : Int) else (a : Int)) = ((max a b : Nat) : Int) := by split <;> omega
theorem rd_law_pairs (ds : List D) (h : DHp) (X : DX) (Q : DK) (hds : ds.length = 3) (c : ct__law_pairs ds h X Q) : tb__law_pairs (endsD h X Q) (startD 7 ds) h := by
  obtain ⟨dr, n, o, rfl, hd, ho, hn, hb, nd, q⟩ := c
  simp only [tb__law_pairs, startD, sSeq, sNil, sIf, sRet, sRetN, sSet, sAsg, sExpr, sNever, sFor, sNox, sBrk, sCont, sFldD, sAug, sAugS, dVar, dC, dOp, dI0, dII, dNeg, dInv, dAndV, dOrV, dNotV, dTst, dTru, dAnd, dOr, dNot, dIfE, dChn, dCall, dCallK, dMake, aNil, aCons, dTup, dLst, dLstH, dFldC, dCB, dBM, tgN, tgSub, iL, iT, iR1, iR2, DEnds.xx, dLc, dLcH, dYes, dSl, oNon, oSome, nI2, nTup, nLst, nLstH, mApp, wipeD, dIn, dIsN, dNotN, dAddH, dMulH, tru_bl, tru_int, add_int, add_tup, mul_int, len_tup, len_lst, len_fz, ne_int, eq_int, ne_bl, eq_bl, int_int, int_bl, ty_end, asL_lst, asL_fz, asS_tup, asS_lst, asS_fz, tgs_cons_eq, tgs_nil_eq, tg_tup_eq, tg_lst_eq, at_end, set_end, asS_end, asL_end, at_pre, set_pre, ty_pre, dTupRev, List.getElem?_cons_zero, List.getElem?_cons_succ, Option.some.injEq, exists_eq_left', exists_eq_left, exists_and_left, exists_and_right, and_assoc, D.int.injEq, D.bl.injEq, D.str.injEq, D.tup.injEq, D.lst.injEq, D.fz.injEq, D.ref.injEq, HB.lst.injEq, List.cons.injEq, and_true, true_and, List.set_cons_zero, List.set_cons_succ, List.map_cons, List.map_nil, List.length_cons, List.length_nil, Nat.reduceAdd, Nat.reduceSub, Nat.sub_self, Nat.zero_add, List.replicate_zero, List.replicate_succ, List.append_nil, List.cons_append, List.nil_append, decide_eq_true_eq, decide_eq_false_iff_not, Bool.not_eq_true', Bool.not_eq_false', Bool.true_eq_false, Bool.false_eq_true, false_implies, forall_const, true_implies, reduceCtorEq, and_false, false_and, Bool.not_true, Bool.not_false, if_true, if_false]
  refine ⟨small (by decide), ?_⟩
  let good : Nat × Nat → Prop := fun p => ∃ i j : Nat, i < j ∧ o[i]? = some p.1 ∧ o[j]? = some p.2
  refine forW_inv (nats dr) (fun k σ h' => ∃ a b c ps, σ = [some (.lst (nats dr)), some (.int n), some (.lst (nats o)), some (.ref h.length), a, b, c] ∧ h' = h ++ [.lst (prs ps)] ∧ ps.Nodup ∧ ps.length ≤ k ∧ ∀ p ∈ ps, good p) ⟨none, none, none, [], rfl, rfl, List.nodup_nil, Nat.le_refl _, fun p hp => nomatch hp⟩ (fun _ _ _ _ _ => rfl) ?_ ?_
  · rintro k x σ h' N hx ⟨a, b, c, ps, rfl, rfl, pnd, pl, pg⟩ hN
    obtain ⟨v, hv, rfl, _, _, hm⟩ := get_map hx
    have hk : k < dr.length := (List.getElem?_eq_some_iff.mp hv).1
    simp only [sSeq, sNil, sIf, sRet, sRetN, sSet, sAsg, sExpr, sNever, sFor, sNox, sBrk, sCont, sFldD, sAug, sAugS, dVar, dC, dOp, dI0, dII, dNeg, dInv, dAndV, dOrV, dNotV, dTst, dTru, dAnd, dOr, dNot, dIfE, dChn, dCall, dCallK, dMake, aNil, aCons, dTup, dLst, dLstH, dFldC, dCB, dBM, tgN, tgSub, iL, iT, iR1, iR2, DEnds.xx, dLc, dLcH, dYes, dSl, oNon, oSome, nI2, nTup, nLst, nLstH, mApp, wipeD, dIn, dIsN, dNotN, dAddH, dMulH, tru_bl, tru_int, add_int, add_tup, mul_int, len_tup, len_lst, len_fz, ne_int, eq_int, ne_bl, eq_bl, int_int, int_bl, ty_end, asL_lst, asL_fz, asS_tup, asS_lst, asS_fz, tgs_cons_eq, tgs_nil_eq, tg_tup_eq, tg_lst_eq, at_end, set_end, asS_end, asL_end, at_pre, set_pre, ty_pre, dTupRev, List.getElem?_cons_zero, List.getElem?_cons_succ, Option.some.injEq, exists_eq_left', exists_eq_left, exists_and_left, exists_and_right, and_assoc, D.int.injEq, D.bl.injEq, D.str.injEq, D.tup.injEq, D.lst.injEq, D.fz.injEq, D.ref.injEq, HB.lst.injEq, List.cons.injEq, and_true, true_and, List.set_cons_zero, List.set_cons_succ, List.map_cons, List.map_nil, List.length_cons, List.length_nil, Nat.reduceAdd, Nat.reduceSub, Nat.sub_self, Nat.zero_add, List.replicate_zero, List.replicate_succ, List.append_nil, List.cons_append, List.nil_append, decide_eq_true_eq, decide_eq_false_iff_not, Bool.not_eq_true', Bool.not_eq_false', Bool.true_eq_false, Bool.false_eq_true, false_implies, forall_const, true_implies, reduceCtorEq, and_false, false_and, Bool.not_true, Bool.not_false, if_true, if_false]
    refine ⟨fun h1 => ?_, fun _ => hN _ _ ⟨_, _, _, ps, rfl, rfl, pnd, by omega, pg⟩⟩
    simp only [mod_nat, div40, min_nat, max_nat]
    have hn0 : 0 < n := by omega
    have ha1 : v % n < n := Nat.mod_lt _ hn0
    have hb1 : v / 40 % n < n := Nat.mod_lt _ hn0
    obtain ⟨x, hx1⟩ := get_lt (l := o) (i := min (v % n) (v / 40 % n)) (by omega)
    obtain ⟨y, hy1⟩ := get_lt (l := o) (i := max (v % n) (v / 40 % n)) (by omega)
    have cd : CDiv (v : Int) 40 := ⟨by decide, by decide⟩
    refine ⟨by omega, cd, by omega, by omega, cd, by omega, fun hlt => ?_, fun _ => hN _ _ ⟨_, _, _, ps, rfl, rfl, pnd, by omega, pg⟩⟩
    simp only [ix_lst (nats_at hx1), ix_lst (nats_at hy1), dIn, rz, at_end, List.getElem?_cons_zero, List.getElem?_cons_succ, Option.some.injEq, exists_eq_left', exists_eq_left, exists_and_left, exists_and_right, and_assoc, D.int.injEq, D.bl.injEq, D.str.injEq, D.tup.injEq, D.lst.injEq, D.fz.injEq, D.ref.injEq, HB.lst.injEq, List.cons.injEq, and_true, true_and, List.set_cons_zero, List.set_cons_succ, List.map_cons, List.map_nil, List.length_cons, List.length_nil, Nat.reduceAdd, Nat.reduceSub, Nat.sub_self, Nat.zero_add, List.replicate_zero, List.replicate_succ, List.append_nil, List.cons_append, List.nil_append, decide_eq_true_eq, decide_eq_false_iff_not, Bool.not_eq_true', Bool.not_eq_false', Bool.true_eq_false, Bool.false_eq_true, false_implies, forall_const, true_implies, reduceCtorEq, and_false, false_and, Bool.not_true, Bool.not_false, if_true, if_false]
    have ok : ∀ p : Nat × Nat, OkD 59 (prN p) := fun p => OkD.ints (n := 58) (l := [(p.1 : Int), (p.2 : Int)])
    refine ⟨small (by decide), OkD.ints (n := 59) (l := [(x : Int), (y : Int)]), fun z hz => ?_, fun hnot => ?_, fun _ => hN _ _ ⟨_, _, _, ps, rfl, rfl, pnd, by omega, pg⟩⟩
    · obtain ⟨p, _, rfl⟩ := List.mem_map.mp hz
      exact ok p
    · have hnew : (x, y) ∉ ps := fun hin => by
        have : (prs ps).any (fun z => deq z (D.tup [D.int (x : Int), D.int (y : Int)])) = true := by
          rw [List.any_eq_true]
          refine ⟨prN (x, y), List.mem_map_of_mem hin, ?_⟩
          show deq (prN (x, y)) (prN (x, y)) = true
          rw [deq_pr]; simp
        rw [this] at hnot
        cases hnot
      refine ⟨.inl ⟨rfl, _, asL_ref at_end⟩, small (by decide), smallL (by rw [prs_len]; omega), hN _ _ ⟨_, _, _, ps ++ [(x, y)], rfl, ?_, ?_, by rw [List.length_append]; simpa using pl, fun p hp => ?_⟩⟩
      · rw [set_end]
        unfold prs
        rw [List.map_append]; rfl
      · rw [List.nodup_append]
        refine ⟨pnd, by simp, fun a ha b hb => ?_⟩
        rw [List.mem_singleton.mp hb]
        rintro rfl
        exact hnew ha
      · rcases List.mem_append.mp hp with hp | hp
        · exact pg p hp
        · rw [List.mem_singleton.mp hp]
          exact ⟨_, _, by omega, hx1, hy1⟩
  · rintro σ h' ⟨a, b, c, ps, rfl, rfl, pnd, pl, pg⟩
    simp only [sSeq, sNil, sIf, sRet, sRetN, sSet, sAsg, sExpr, sNever, sFor, sNox, sBrk, sCont, sFldD, sAug, sAugS, dVar, dC, dOp, dI0, dII, dNeg, dInv, dAndV, dOrV, dNotV, dTst, dTru, dAnd, dOr, dNot, dIfE, dChn, dCall, dCallK, dMake, aNil, aCons, dTup, dLst, dLstH, dFldC, dCB, dBM, tgN, tgSub, iL, iT, iR1, iR2, DEnds.xx, dLc, dLcH, dYes, dSl, oNon, oSome, nI2, nTup, nLst, nLstH, mApp, wipeD, dIn, dIsN, dNotN, dAddH, dMulH, tru_bl, tru_int, add_int, add_tup, mul_int, len_tup, len_lst, len_fz, ne_int, eq_int, ne_bl, eq_bl, int_int, int_bl, ty_end, asL_lst, asL_fz, asS_tup, asS_lst, asS_fz, tgs_cons_eq, tgs_nil_eq, tg_tup_eq, tg_lst_eq, at_end, set_end, asS_end, asL_end, at_pre, set_pre, ty_pre, dTupRev, List.getElem?_cons_zero, List.getElem?_cons_succ, Option.some.injEq, exists_eq_left', exists_eq_left, exists_and_left, exists_and_right, and_assoc, D.int.injEq, D.bl.injEq, D.str.injEq, D.tup.injEq, D.lst.injEq, D.fz.injEq, D.ref.injEq, HB.lst.injEq, List.cons.injEq, and_true, true_and, List.set_cons_zero, List.set_cons_succ, List.map_cons, List.map_nil, List.length_cons, List.length_nil, Nat.reduceAdd, Nat.reduceSub, Nat.sub_self, Nat.zero_add, List.replicate_zero, List.replicate_succ, List.append_nil, List.cons_append, List.nil_append, decide_eq_true_eq, decide_eq_false_iff_not, Bool.not_eq_true', Bool.not_eq_false', Bool.true_eq_false, Bool.false_eq_true, false_implies, forall_const, true_implies, reduceCtorEq, and_false, false_and, Bool.not_true, Bool.not_false, if_true, if_false]
    refine ⟨_, ps.map cst, rfl, by rw [← prs_cst]; exact asL_ref at_end, fun qs hp hs => ?_⟩
    obtain ⟨rs, rfl, rp, ru⟩ := sorted_prs hp hs pnd
    rw [← prs_cst]
    refine rt_back (Bds_all fun x hx => ?_) (q rs ⟨fun p hp => ?_, ru, ?_⟩ fun p hp => pg p (rp.mem_iff.mp hp))
    · obtain ⟨p, _, rfl⟩ := List.mem_map.mp hx
      exact ⟨trivial, trivial, trivial⟩
    · obtain ⟨i, j, hij, h1, h2⟩ := pg p (rp.mem_iff.mp hp)
      refine ⟨hb _ (List.mem_of_getElem? h1), hb _ (List.mem_of_getElem? h2), fun e => ?_⟩
      obtain ⟨hi, e1⟩ := List.getElem?_eq_some_iff.mp h1
      obtain ⟨hj, e2⟩ := List.getElem?_eq_some_iff.mp h2
      have := (List.getElem_inj nd).mp (e1.trans (e.trans e2.symm))
      omega
    · rw [rp.length_eq]
      rw [nats_len] at pl
      omega
end L2.MW.K47

namespace L2.MW.K47
open PySem PySem.Spec PyProof.Rows L2 L2.MW
theorem rg_nats (n : Nat) : rgD 0 n = nats (List.range n) := by
  unfold rgD nats
  refine List.map_congr_left fun i _ => ?_
  rw [Int.zero_add]
theorem bit_eq1 {b : Bool} : ((if b = true then (1 : Int) else 0) == 1) = b := by cases b <;> rfl
theorem iOf_int {i : Int} : iOf (.int i) = i := rfl
theorem rd_law_in (ds : List D) (h : DHp) (X : DX) (Q : DK) (hds : ds.length = 2) (c : ct__law_in ds h X Q) : tb__law_in (endsD h X Q) (startD 3 ds) h := by
  obtain ⟨n, m, rfl, hn, q⟩ := c
  simp only [tb__law_in, startD, sSeq, sNil, sIf, sRet, sRetN, sSet, sAsg, sExpr, sNever, sFor, sNox, sBrk, sCont, sFldD, sAug, sAugS, dVar, dC, dOp, dI0, dII, dNeg, dInv, dAndV, dOrV, dNotV, dTst, dTru, dAnd, dOr, dNot, dIfE, dChn, dCall, dCallK, dMake, aNil, aCons, dTup, dLst, dLstH, dFldC, dCB, dBM, tgN, tgSub, iL, iT, iR1, iR2, DEnds.xx, dLc, dLcH, dYes, dSl, oNon, oSome, nI2, nTup, nLst, nLstH, mApp, wipeD, dIn, dIsN, dNotN, dAddH, dMulH, tru_bl, tru_int, add_int, add_tup, mul_int, len_tup, len_lst, len_fz, ne_int, eq_int, ne_bl, eq_bl, int_int, int_bl, ty_end, asL_lst, asL_fz, asS_tup, asS_lst, asS_fz, tgs_cons_eq, tgs_nil_eq, tg_tup_eq, tg_lst_eq, at_end, set_end, asS_end, asL_end, at_pre, set_pre, ty_pre, dTupRev, List.getElem?_cons_zero, List.getElem?_cons_succ, Option.some.injEq, exists_eq_left', exists_eq_left, exists_and_left, exists_and_right, and_assoc, D.int.injEq, D.bl.injEq, D.str.injEq, D.tup.injEq, D.lst.injEq, D.fz.injEq, D.ref.injEq, HB.lst.injEq, List.cons.injEq, and_true, true_and, List.set_cons_zero, List.set_cons_succ, List.map_cons, List.map_nil, List.length_cons, List.length_nil, Nat.reduceAdd, Nat.reduceSub, Nat.sub_self, Nat.zero_add, List.replicate_zero, List.replicate_succ, List.append_nil, List.cons_append, List.nil_append, decide_eq_true_eq, decide_eq_false_iff_not, Bool.not_eq_true', Bool.not_eq_false', Bool.true_eq_false, Bool.false_eq_true, false_implies, forall_const, true_implies, reduceCtorEq, and_false, false_and, Bool.not_true, Bool.not_false, if_true, if_false]
  refine ⟨rgOk (by omega), ?_⟩
  rw [Int.toNat_natCast]
  refine lc_map (fun d => d) (fun d => m.testBit (iOf d).toNat) (rgD 0 n) (fun _ => trivial) (small (by rw [rg_len]; omega)) ?_ ?_
  · intro x hx acc R hl hA hB
    obtain ⟨i, hi, rfl⟩ := rg_mem hx
    rw [iOf_int, Int.toNat_natCast] at hA hB
    simp only [sSeq, sNil, sIf, sRet, sRetN, sSet, sAsg, sExpr, sNever, sFor, sNox, sBrk, sCont, sFldD, sAug, sAugS, dVar, dC, dOp, dI0, dII, dNeg, dInv, dAndV, dOrV, dNotV, dTst, dTru, dAnd, dOr, dNot, dIfE, dChn, dCall, dCallK, dMake, aNil, aCons, dTup, dLst, dLstH, dFldC, dCB, dBM, tgN, tgSub, iL, iT, iR1, iR2, DEnds.xx, dLc, dLcH, dYes, dSl, oNon, oSome, nI2, nTup, nLst, nLstH, mApp, wipeD, dIn, dIsN, dNotN, dAddH, dMulH, tru_bl, tru_int, add_int, add_tup, mul_int, len_tup, len_lst, len_fz, ne_int, eq_int, ne_bl, eq_bl, int_int, int_bl, ty_end, asL_lst, asL_fz, asS_tup, asS_lst, asS_fz, tgs_cons_eq, tgs_nil_eq, tg_tup_eq, tg_lst_eq, at_end, set_end, asS_end, asL_end, at_pre, set_pre, ty_pre, dTupRev, List.getElem?_cons_zero, List.getElem?_cons_succ, Option.some.injEq, exists_eq_left', exists_eq_left, exists_and_left, exists_and_right, and_assoc, D.int.injEq, D.bl.injEq, D.str.injEq, D.tup.injEq, D.lst.injEq, D.fz.injEq, D.ref.injEq, HB.lst.injEq, List.cons.injEq, and_true, true_and, List.set_cons_zero, List.set_cons_succ, List.map_cons, List.map_nil, List.length_cons, List.length_nil, Nat.reduceAdd, Nat.reduceSub, Nat.sub_self, Nat.zero_add, List.replicate_zero, List.replicate_succ, List.append_nil, List.cons_append, List.nil_append, decide_eq_true_eq, decide_eq_false_iff_not, Bool.not_eq_true', Bool.not_eq_false', Bool.true_eq_false, Bool.false_eq_true, false_implies, forall_const, true_implies, reduceCtorEq, and_false, false_and, Bool.not_true, Bool.not_false, if_true, if_false]
    rw [Int.toNat_natCast, bBit, bit_eq1]
    exact ⟨by omega, fun z => ⟨hl, hA z⟩, hB⟩
  · have e : lcF (fun d => d) (fun d => m.testBit (iOf d).toNat) (rgD 0 n) = nats ((List.range n).filter fun k => m.testBit k) := by
      rw [rg_nats]
      unfold lcF nats
      rw [List.filter_map, List.map_map]
      rfl
    rw [e]
    exact ⟨_, rfl, Bds_nats, rt_keep q⟩
theorem prD_at {p : Nat × Nat} {h : DHp} {Q : DK} : (dIx (prN p) (.int 0) h Q ↔ Q (.int (p.1 : Int)) h) ∧ (dIx (prN p) (.int 1) h Q ↔ Q (.int (p.2 : Int)) h) := ⟨ix_tup atI_0, ix_tup atI_1⟩
theorem nats_ixN {ms : List Nat} {e : Nat} (h : e < ms.length) : ixN (nats ms).length (e : Int) = some e := by rw [nats_len]; exact ixN_nat h
theorem rd_law_needs (ds : List D) (h : DHp) (X : DX) (Q : DK) (hds : ds.length = 2) (c : ct__law_needs ds h X Q) : tb__law_needs (endsD h X Q) (startD N__law_needs.length ds) h := by
  obtain ⟨n, cs, rfl, hn, ok, q⟩ := c
  simp only [tb__law_needs, startD, sSeq, sNil, sIf, sRet, sRetN, sSet, sAsg, sExpr, sNever, sFor, sNox, sBrk, sCont, sFldD, sAug, sAugS, dVar, dC, dOp, dI0, dII, dNeg, dInv, dAndV, dOrV, dNotV, dTst, dTru, dAnd, dOr, dNot, dIfE, dChn, dCall, dCallK, dMake, aNil, aCons, dTup, dLst, dLstH, dFldC, dCB, dBM, tgN, tgSub, iL, iT, iR1, iR2, DEnds.xx, dLc, dLcH, dYes, dSl, oNon, oSome, nI2, nTup, nLst, nLstH, mApp, wipeD, dIn, dIsN, dNotN, dAddH, dMulH, tru_bl, tru_int, add_int, add_tup, mul_int, len_tup, len_lst, len_fz, ne_int, eq_int, ne_bl, eq_bl, int_int, int_bl, ty_end, asL_lst, asL_fz, asS_tup, asS_lst, asS_fz, tgs_cons_eq, tgs_nil_eq, tg_tup_eq, tg_lst_eq, at_end, set_end, asS_end, asL_end, at_pre, set_pre, ty_pre, dTupRev, List.getElem?_cons_zero, List.getElem?_cons_succ, Option.some.injEq, exists_eq_left', exists_eq_left, exists_and_left, exists_and_right, and_assoc, D.int.injEq, D.bl.injEq, D.str.injEq, D.tup.injEq, D.lst.injEq, D.fz.injEq, D.ref.injEq, HB.lst.injEq, List.cons.injEq, and_true, true_and, List.set_cons_zero, List.set_cons_succ, List.map_cons, List.map_nil, List.length_cons, List.length_nil, Nat.reduceAdd, Nat.reduceSub, Nat.sub_self, Nat.zero_add, List.replicate_zero, List.replicate_succ, List.append_nil, List.cons_append, List.nil_append, decide_eq_true_eq, decide_eq_false_iff_not, Bool.not_eq_true', Bool.not_eq_false', Bool.true_eq_false, Bool.false_eq_true, false_implies, forall_const, true_implies, reduceCtorEq, and_false, false_and, Bool.not_true, Bool.not_false, if_true, if_false]
  refine ⟨rgOk (by omega), ?_⟩
  rw [Int.toNat_natCast]
  have fin : ∀ {ms : List Nat}, ms.length = n → (endsD h X Q).rt (.ref h.length) (h ++ [.lst (nats ms)]) := fun e => rt_lst Bds_nats (q _ e)
  refine lc_map (fun d => .int ((2 ^ (iOf d).toNat : Nat) : Int)) (fun _ => true) (rgD 0 n) (fun _ => trivial) (small (by rw [rg_len]; omega)) ?_ ?_
  · intro x hx acc R hl hA hB
    obtain ⟨i, hi, rfl⟩ := rg_mem hx
    rw [iOf_int, Int.toNat_natCast] at hA
    simp only [sSeq, sNil, sIf, sRet, sRetN, sSet, sAsg, sExpr, sNever, sFor, sNox, sBrk, sCont, sFldD, sAug, sAugS, dVar, dC, dOp, dI0, dII, dNeg, dInv, dAndV, dOrV, dNotV, dTst, dTru, dAnd, dOr, dNot, dIfE, dChn, dCall, dCallK, dMake, aNil, aCons, dTup, dLst, dLstH, dFldC, dCB, dBM, tgN, tgSub, iL, iT, iR1, iR2, DEnds.xx, dLc, dLcH, dYes, dSl, oNon, oSome, nI2, nTup, nLst, nLstH, mApp, wipeD, dIn, dIsN, dNotN, dAddH, dMulH, tru_bl, tru_int, add_int, add_tup, mul_int, len_tup, len_lst, len_fz, ne_int, eq_int, ne_bl, eq_bl, int_int, int_bl, ty_end, asL_lst, asL_fz, asS_tup, asS_lst, asS_fz, tgs_cons_eq, tgs_nil_eq, tg_tup_eq, tg_lst_eq, at_end, set_end, asS_end, asL_end, at_pre, set_pre, ty_pre, dTupRev, List.getElem?_cons_zero, List.getElem?_cons_succ, Option.some.injEq, exists_eq_left', exists_eq_left, exists_and_left, exists_and_right, and_assoc, D.int.injEq, D.bl.injEq, D.str.injEq, D.tup.injEq, D.lst.injEq, D.fz.injEq, D.ref.injEq, HB.lst.injEq, List.cons.injEq, and_true, true_and, List.set_cons_zero, List.set_cons_succ, List.map_cons, List.map_nil, List.length_cons, List.length_nil, Nat.reduceAdd, Nat.reduceSub, Nat.sub_self, Nat.zero_add, List.replicate_zero, List.replicate_succ, List.append_nil, List.cons_append, List.nil_append, decide_eq_true_eq, decide_eq_false_iff_not, Bool.not_eq_true', Bool.not_eq_false', Bool.true_eq_false, Bool.false_eq_true, false_implies, forall_const, true_implies, reduceCtorEq, and_false, false_and, Bool.not_true, Bool.not_false, if_true, if_false]
    refine ⟨⟨by omega, by omega, by decide⟩, hl, ?_⟩
    rw [Int.toNat_natCast, bShl]
    exact hA rfl
  · have e : lcF (fun d => D.int ((2 ^ (iOf d).toNat : Nat) : Int)) (fun _ => true) (rgD 0 n) = nats ((List.range n).map fun k => 2 ^ k) := by
      rw [rg_nats]
      unfold lcF nats
      rw [List.filter_eq_self.mpr (fun _ _ => rfl), List.map_map, List.map_map]
      rfl
    rw [e]
    refine ⟨rgOk (by omega), ?_⟩
    refine forW_inv (rgD 0 n) (fun _ σ h' => ∃ ms o3 o4 o5 o6 o7, σ = [some (.int n), some (.lst (prs cs)), some (.ref h.length), o3, o4, o5, o6, o7] ∧ h' = h ++ [.lst (nats ms)] ∧ ms.length = n) ⟨_, _, _, _, _, _, rfl, rfl, by rw [List.length_map, List.length_range]⟩ (fun _ _ _ _ _ => trivial) ?_ ?_
    · rintro i x σ h' N hx ⟨ms, o3, o4, o5, o6, o7, rfl, rfl, hl⟩ hN
      obtain ⟨rfl, hi⟩ := rg_get hx
      simp only [sSeq, sNil, sIf, sRet, sRetN, sSet, sAsg, sExpr, sNever, sFor, sNox, sBrk, sCont, sFldD, sAug, sAugS, dVar, dC, dOp, dI0, dII, dNeg, dInv, dAndV, dOrV, dNotV, dTst, dTru, dAnd, dOr, dNot, dIfE, dChn, dCall, dCallK, dMake, aNil, aCons, dTup, dLst, dLstH, dFldC, dCB, dBM, tgN, tgSub, iL, iT, iR1, iR2, DEnds.xx, dLc, dLcH, dYes, dSl, oNon, oSome, nI2, nTup, nLst, nLstH, mApp, wipeD, dIn, dIsN, dNotN, dAddH, dMulH, tru_bl, tru_int, add_int, add_tup, mul_int, len_tup, len_lst, len_fz, ne_int, eq_int, ne_bl, eq_bl, int_int, int_bl, ty_end, asL_lst, asL_fz, asS_tup, asS_lst, asS_fz, tgs_cons_eq, tgs_nil_eq, tg_tup_eq, tg_lst_eq, at_end, set_end, asS_end, asL_end, at_pre, set_pre, ty_pre, dTupRev, List.getElem?_cons_zero, List.getElem?_cons_succ, Option.some.injEq, exists_eq_left', exists_eq_left, exists_and_left, exists_and_right, and_assoc, D.int.injEq, D.bl.injEq, D.str.injEq, D.tup.injEq, D.lst.injEq, D.fz.injEq, D.ref.injEq, HB.lst.injEq, List.cons.injEq, and_true, true_and, List.set_cons_zero, List.set_cons_succ, List.map_cons, List.map_nil, List.length_cons, List.length_nil, Nat.reduceAdd, Nat.reduceSub, Nat.sub_self, Nat.zero_add, List.replicate_zero, List.replicate_succ, List.append_nil, List.cons_append, List.nil_append, decide_eq_true_eq, decide_eq_false_iff_not, Bool.not_eq_true', Bool.not_eq_false', Bool.true_eq_false, Bool.false_eq_true, false_implies, forall_const, true_implies, reduceCtorEq, and_false, false_and, Bool.not_true, Bool.not_false, if_true, if_false]
      refine forW_inv (prs cs) (fun _ σ h' => ∃ ms o3 o4 b o6 o7, σ = [some (.int n), some (.lst (prs cs)), some (.ref h.length), o3, o4, some (.bl b), o6, o7] ∧ h' = h ++ [.lst (nats ms)] ∧ ms.length = n) ⟨_, _, _, _, _, _, rfl, rfl, hl⟩ (fun _ _ _ _ _ => rfl) ?_ ?_
      · rintro j x σ h' N hx ⟨ms, o3, o4, b, o6, o7, rfl, rfl, hl⟩ hN
        obtain ⟨p, hp, rfl, _, _, hm⟩ := get_map hx
        obtain ⟨b1, b2, b3⟩ := ok.bd p hm
        obtain ⟨v, hv⟩ := get_lt (l := ms) (i := p.2) (by omega)
        obtain ⟨u, hu⟩ := get_lt (l := ms) (i := p.1) (by omega)
        simp only [sSeq, sNil, sIf, sRet, sRetN, sSet, sAsg, sExpr, sNever, sFor, sNox, sBrk, sCont, sFldD, sAug, sAugS, dVar, dC, dOp, dI0, dII, dNeg, dInv, dAndV, dOrV, dNotV, dTst, dTru, dAnd, dOr, dNot, dIfE, dChn, dCall, dCallK, dMake, aNil, aCons, dTup, dLst, dLstH, dFldC, dCB, dBM, tgN, tgSub, iL, iT, iR1, iR2, DEnds.xx, dLc, dLcH, dYes, dSl, oNon, oSome, nI2, nTup, nLst, nLstH, mApp, wipeD, dIn, dIsN, dNotN, dAddH, dMulH, tru_bl, tru_int, add_int, add_tup, mul_int, len_tup, len_lst, len_fz, ne_int, eq_int, ne_bl, eq_bl, int_int, int_bl, ty_end, asL_lst, asL_fz, asS_tup, asS_lst, asS_fz, tgs_cons_eq, tgs_nil_eq, tg_tup_eq, tg_lst_eq, at_end, set_end, asS_end, asL_end, at_pre, set_pre, ty_pre, dTupRev, List.getElem?_cons_zero, List.getElem?_cons_succ, Option.some.injEq, exists_eq_left', exists_eq_left, exists_and_left, exists_and_right, and_assoc, D.int.injEq, D.bl.injEq, D.str.injEq, D.tup.injEq, D.lst.injEq, D.fz.injEq, D.ref.injEq, HB.lst.injEq, List.cons.injEq, and_true, true_and, List.set_cons_zero, List.set_cons_succ, List.map_cons, List.map_nil, List.length_cons, List.length_nil, Nat.reduceAdd, Nat.reduceSub, Nat.sub_self, Nat.zero_add, List.replicate_zero, List.replicate_succ, List.append_nil, List.cons_append, List.nil_append, decide_eq_true_eq, decide_eq_false_iff_not, Bool.not_eq_true', Bool.not_eq_false', Bool.true_eq_false, Bool.false_eq_true, false_implies, forall_const, true_implies, reduceCtorEq, and_false, false_and, Bool.not_true, Bool.not_false, if_true, if_false, prD_at, ix_ref at_end (nats_at hv), ix_ref at_end (nats_at hu)]
        refine ⟨fun _ => ⟨_, nats_ixN (by omega), hN _ _ ⟨ms.set p.2 (v ||| u), _, _, _, _, _, rfl, by rw [bOr, nats_set], by rw [List.length_set]; exact hl⟩⟩, fun _ => hN _ _ ⟨ms, _, _, _, _, _, rfl, rfl, hl⟩⟩
      · rintro σ h' ⟨ms, o3, o4, b, o6, o7, rfl, rfl, hl⟩
        simp only [sSeq, sNil, sIf, sRet, sRetN, sSet, sAsg, sExpr, sNever, sFor, sNox, sBrk, sCont, sFldD, sAug, sAugS, dVar, dC, dOp, dI0, dII, dNeg, dInv, dAndV, dOrV, dNotV, dTst, dTru, dAnd, dOr, dNot, dIfE, dChn, dCall, dCallK, dMake, aNil, aCons, dTup, dLst, dLstH, dFldC, dCB, dBM, tgN, tgSub, iL, iT, iR1, iR2, DEnds.xx, dLc, dLcH, dYes, dSl, oNon, oSome, nI2, nTup, nLst, nLstH, mApp, wipeD, dIn, dIsN, dNotN, dAddH, dMulH, tru_bl, tru_int, add_int, add_tup, mul_int, len_tup, len_lst, len_fz, ne_int, eq_int, ne_bl, eq_bl, int_int, int_bl, ty_end, asL_lst, asL_fz, asS_tup, asS_lst, asS_fz, tgs_cons_eq, tgs_nil_eq, tg_tup_eq, tg_lst_eq, at_end, set_end, asS_end, asL_end, at_pre, set_pre, ty_pre, dTupRev, List.getElem?_cons_zero, List.getElem?_cons_succ, Option.some.injEq, exists_eq_left', exists_eq_left, exists_and_left, exists_and_right, and_assoc, D.int.injEq, D.bl.injEq, D.str.injEq, D.tup.injEq, D.lst.injEq, D.fz.injEq, D.ref.injEq, HB.lst.injEq, List.cons.injEq, and_true, true_and, List.set_cons_zero, List.set_cons_succ, List.map_cons, List.map_nil, List.length_cons, List.length_nil, Nat.reduceAdd, Nat.reduceSub, Nat.sub_self, Nat.zero_add, List.replicate_zero, List.replicate_succ, List.append_nil, List.cons_append, List.nil_append, decide_eq_true_eq, decide_eq_false_iff_not, Bool.not_eq_true', Bool.not_eq_false', Bool.true_eq_false, Bool.false_eq_true, false_implies, forall_const, true_implies, reduceCtorEq, and_false, false_and, Bool.not_true, Bool.not_false, if_true, if_false]
        exact ⟨fun _ => fin hl, fun _ => hN _ _ ⟨ms, _, _, _, _, _, rfl, rfl, hl⟩⟩
    · rintro σ h' ⟨ms, o3, o4, o5, o6, o7, rfl, rfl, hl⟩
      simp only [sSeq, sNil, sIf, sRet, sRetN, sSet, sAsg, sExpr, sNever, sFor, sNox, sBrk, sCont, sFldD, sAug, sAugS, dVar, dC, dOp, dI0, dII, dNeg, dInv, dAndV, dOrV, dNotV, dTst, dTru, dAnd, dOr, dNot, dIfE, dChn, dCall, dCallK, dMake, aNil, aCons, dTup, dLst, dLstH, dFldC, dCB, dBM, tgN, tgSub, iL, iT, iR1, iR2, DEnds.xx, dLc, dLcH, dYes, dSl, oNon, oSome, nI2, nTup, nLst, nLstH, mApp, wipeD, dIn, dIsN, dNotN, dAddH, dMulH, tru_bl, tru_int, add_int, add_tup, mul_int, len_tup, len_lst, len_fz, ne_int, eq_int, ne_bl, eq_bl, int_int, int_bl, ty_end, asL_lst, asL_fz, asS_tup, asS_lst, asS_fz, tgs_cons_eq, tgs_nil_eq, tg_tup_eq, tg_lst_eq, at_end, set_end, asS_end, asL_end, at_pre, set_pre, ty_pre, dTupRev, List.getElem?_cons_zero, List.getElem?_cons_succ, Option.some.injEq, exists_eq_left', exists_eq_left, exists_and_left, exists_and_right, and_assoc, D.int.injEq, D.bl.injEq, D.str.injEq, D.tup.injEq, D.lst.injEq, D.fz.injEq, D.ref.injEq, HB.lst.injEq, List.cons.injEq, and_true, true_and, List.set_cons_zero, List.set_cons_succ, List.map_cons, List.map_nil, List.length_cons, List.length_nil, Nat.reduceAdd, Nat.reduceSub, Nat.sub_self, Nat.zero_add, List.replicate_zero, List.replicate_succ, List.append_nil, List.cons_append, List.nil_append, decide_eq_true_eq, decide_eq_false_iff_not, Bool.not_eq_true', Bool.not_eq_false', Bool.true_eq_false, Bool.false_eq_true, false_implies, forall_const, true_implies, reduceCtorEq, and_false, false_and, Bool.not_true, Bool.not_false, if_true, if_false]
      exact fin hl
theorem rd_law_state (ds : List D) (h : DHp) (X : DX) (Q : DK) (hds : ds.length = 4) (c : ct__law_state ds h X Q) : tb__law_state (endsD h X Q) (startD N__law_state.length ds) h := by
  obtain ⟨n, cs, fs, dr, rfl, hn, ok1, ok2, q⟩ := c
  simp only [tb__law_state, startD, sSeq, sNil, sIf, sRet, sRetN, sSet, sAsg, sExpr, sNever, sFor, sNox, sBrk, sCont, sFldD, sAug, sAugS, dVar, dC, dOp, dI0, dII, dNeg, dInv, dAndV, dOrV, dNotV, dTst, dTru, dAnd, dOr, dNot, dIfE, dChn, dCall, dCallK, dMake, aNil, aCons, dTup, dLst, dLstH, dFldC, dCB, dBM, tgN, tgSub, iL, iT, iR1, iR2, DEnds.xx, dLc, dLcH, dYes, dSl, oNon, oSome, nI2, nTup, nLst, nLstH, mApp, wipeD, dIn, dIsN, dNotN, dAddH, dMulH, tru_bl, tru_int, add_int, add_tup, mul_int, len_tup, len_lst, len_fz, ne_int, eq_int, ne_bl, eq_bl, int_int, int_bl, ty_end, asL_lst, asL_fz, asS_tup, asS_lst, asS_fz, tgs_cons_eq, tgs_nil_eq, tg_tup_eq, tg_lst_eq, at_end, set_end, asS_end, asL_end, at_pre, set_pre, ty_pre, dTupRev, List.getElem?_cons_zero, List.getElem?_cons_succ, Option.some.injEq, exists_eq_left', exists_eq_left, exists_and_left, exists_and_right, and_assoc, D.int.injEq, D.bl.injEq, D.str.injEq, D.tup.injEq, D.lst.injEq, D.fz.injEq, D.ref.injEq, HB.lst.injEq, List.cons.injEq, and_true, true_and, List.set_cons_zero, List.set_cons_succ, List.map_cons, List.map_nil, List.length_cons, List.length_nil, Nat.reduceAdd, Nat.reduceSub, Nat.sub_self, Nat.zero_add, List.replicate_zero, List.replicate_succ, List.append_nil, List.cons_append, List.nil_append, decide_eq_true_eq, decide_eq_false_iff_not, Bool.not_eq_true', Bool.not_eq_false', Bool.true_eq_false, Bool.false_eq_true, false_implies, forall_const, true_implies, reduceCtorEq, and_false, false_and, Bool.not_true, Bool.not_false, if_true, if_false]
  refine ⟨n, cs, rfl, hn, ok1, fun ms hl => ?_⟩
  refine forW_inv (nats dr) (fun _ σ h' => h' = h ∧ ∃ (m : Nat) (o6 o7 o8 o9 : Option D), σ = [some (.int n), some (.lst (prs cs)), some (.lst (prs fs)), some (.lst (nats dr)), some (.lst (nats ms)), some (.int m), o6, o7, o8, o9]) ⟨rfl, 0, _, _, _, _, rfl⟩ (fun _ _ _ _ _ => rfl) ?_ ?_
  · rintro i x σ h' N hx ⟨rfl, m, o6, o7, o8, o9, rfl⟩ hN
    obtain ⟨v, hv, rfl, _, _, hm⟩ := get_map hx
    simp only [sSeq, sNil, sIf, sRet, sRetN, sSet, sAsg, sExpr, sNever, sFor, sNox, sBrk, sCont, sFldD, sAug, sAugS, dVar, dC, dOp, dI0, dII, dNeg, dInv, dAndV, dOrV, dNotV, dTst, dTru, dAnd, dOr, dNot, dIfE, dChn, dCall, dCallK, dMake, aNil, aCons, dTup, dLst, dLstH, dFldC, dCB, dBM, tgN, tgSub, iL, iT, iR1, iR2, DEnds.xx, dLc, dLcH, dYes, dSl, oNon, oSome, nI2, nTup, nLst, nLstH, mApp, wipeD, dIn, dIsN, dNotN, dAddH, dMulH, tru_bl, tru_int, add_int, add_tup, mul_int, len_tup, len_lst, len_fz, ne_int, eq_int, ne_bl, eq_bl, int_int, int_bl, ty_end, asL_lst, asL_fz, asS_tup, asS_lst, asS_fz, tgs_cons_eq, tgs_nil_eq, tg_tup_eq, tg_lst_eq, at_end, set_end, asS_end, asL_end, at_pre, set_pre, ty_pre, dTupRev, List.getElem?_cons_zero, List.getElem?_cons_succ, Option.some.injEq, exists_eq_left', exists_eq_left, exists_and_left, exists_and_right, and_assoc, D.int.injEq, D.bl.injEq, D.str.injEq, D.tup.injEq, D.lst.injEq, D.fz.injEq, D.ref.injEq, HB.lst.injEq, List.cons.injEq, and_true, true_and, List.set_cons_zero, List.set_cons_succ, List.map_cons, List.map_nil, List.length_cons, List.length_nil, Nat.reduceAdd, Nat.reduceSub, Nat.sub_self, Nat.zero_add, List.replicate_zero, List.replicate_succ, List.append_nil, List.cons_append, List.nil_append, decide_eq_true_eq, decide_eq_false_iff_not, Bool.not_eq_true', Bool.not_eq_false', Bool.true_eq_false, Bool.false_eq_true, false_implies, forall_const, true_implies, reduceCtorEq, and_false, false_and, Bool.not_true, Bool.not_false, if_true, if_false, mod_nat]
    refine ⟨fun hn0 => ?_, fun _ => hN _ _ ⟨rfl, _, _, _, _, _, rfl⟩⟩
    obtain ⟨u, hu⟩ := get_lt (l := ms) (i := v % n) (by rw [hl]; exact Nat.mod_lt _ (by omega))
    simp only [sSeq, sNil, sIf, sRet, sRetN, sSet, sAsg, sExpr, sNever, sFor, sNox, sBrk, sCont, sFldD, sAug, sAugS, dVar, dC, dOp, dI0, dII, dNeg, dInv, dAndV, dOrV, dNotV, dTst, dTru, dAnd, dOr, dNot, dIfE, dChn, dCall, dCallK, dMake, aNil, aCons, dTup, dLst, dLstH, dFldC, dCB, dBM, tgN, tgSub, iL, iT, iR1, iR2, DEnds.xx, dLc, dLcH, dYes, dSl, oNon, oSome, nI2, nTup, nLst, nLstH, mApp, wipeD, dIn, dIsN, dNotN, dAddH, dMulH, tru_bl, tru_int, add_int, add_tup, mul_int, len_tup, len_lst, len_fz, ne_int, eq_int, ne_bl, eq_bl, int_int, int_bl, ty_end, asL_lst, asL_fz, asS_tup, asS_lst, asS_fz, tgs_cons_eq, tgs_nil_eq, tg_tup_eq, tg_lst_eq, at_end, set_end, asS_end, asL_end, at_pre, set_pre, ty_pre, dTupRev, List.getElem?_cons_zero, List.getElem?_cons_succ, Option.some.injEq, exists_eq_left', exists_eq_left, exists_and_left, exists_and_right, and_assoc, D.int.injEq, D.bl.injEq, D.str.injEq, D.tup.injEq, D.lst.injEq, D.fz.injEq, D.ref.injEq, HB.lst.injEq, List.cons.injEq, and_true, true_and, List.set_cons_zero, List.set_cons_succ, List.map_cons, List.map_nil, List.length_cons, List.length_nil, Nat.reduceAdd, Nat.reduceSub, Nat.sub_self, Nat.zero_add, List.replicate_zero, List.replicate_succ, List.append_nil, List.cons_append, List.nil_append, decide_eq_true_eq, decide_eq_false_iff_not, Bool.not_eq_true', Bool.not_eq_false', Bool.true_eq_false, Bool.false_eq_true, false_implies, forall_const, true_implies, reduceCtorEq, and_false, false_and, Bool.not_true, Bool.not_false, if_true, if_false, ix_lst (nats_at hu)]
    refine ⟨by omega, ?_⟩
    rw [bOr]
    refine forW_inv (prs fs) (fun _ σ h'' => h'' = h' ∧ ∃ (b : Bool) (o9 : Option D), σ = [some (.int n), some (.lst (prs cs)), some (.lst (prs fs)), some (.lst (nats dr)), some (.lst (nats ms)), some (.int m), some (.int v), some (.int ((m ||| u : Nat) : Int)), some (.bl b), o9]) ⟨rfl, _, _, rfl⟩ (fun _ _ _ _ _ => rfl) ?_ ?_
    · rintro i x σ h' N hx ⟨rfl, b, o9, rfl⟩ hN
      obtain ⟨p, hp, rfl, _, _, hm⟩ := get_map hx
      simp only [sSeq, sNil, sIf, sRet, sRetN, sSet, sAsg, sExpr, sNever, sFor, sNox, sBrk, sCont, sFldD, sAug, sAugS, dVar, dC, dOp, dI0, dII, dNeg, dInv, dAndV, dOrV, dNotV, dTst, dTru, dAnd, dOr, dNot, dIfE, dChn, dCall, dCallK, dMake, aNil, aCons, dTup, dLst, dLstH, dFldC, dCB, dBM, tgN, tgSub, iL, iT, iR1, iR2, DEnds.xx, dLc, dLcH, dYes, dSl, oNon, oSome, nI2, nTup, nLst, nLstH, mApp, wipeD, dIn, dIsN, dNotN, dAddH, dMulH, tru_bl, tru_int, add_int, add_tup, mul_int, len_tup, len_lst, len_fz, ne_int, eq_int, ne_bl, eq_bl, int_int, int_bl, ty_end, asL_lst, asL_fz, asS_tup, asS_lst, asS_fz, tgs_cons_eq, tgs_nil_eq, tg_tup_eq, tg_lst_eq, at_end, set_end, asS_end, asL_end, at_pre, set_pre, ty_pre, dTupRev, List.getElem?_cons_zero, List.getElem?_cons_succ, Option.some.injEq, exists_eq_left', exists_eq_left, exists_and_left, exists_and_right, and_assoc, D.int.injEq, D.bl.injEq, D.str.injEq, D.tup.injEq, D.lst.injEq, D.fz.injEq, D.ref.injEq, HB.lst.injEq, List.cons.injEq, and_true, true_and, List.set_cons_zero, List.set_cons_succ, List.map_cons, List.map_nil, List.length_cons, List.length_nil, Nat.reduceAdd, Nat.reduceSub, Nat.sub_self, Nat.zero_add, List.replicate_zero, List.replicate_succ, List.append_nil, List.cons_append, List.nil_append, decide_eq_true_eq, decide_eq_false_iff_not, Bool.not_eq_true', Bool.not_eq_false', Bool.true_eq_false, Bool.false_eq_true, false_implies, forall_const, true_implies, reduceCtorEq, and_false, false_and, Bool.not_true, Bool.not_false, if_true, if_false, prD_at]
      refine ⟨by omega, fun _ => ⟨by omega, fun _ => hN _ _ ⟨rfl, _, _, rfl⟩, fun _ => hN _ _ ⟨rfl, _, _, rfl⟩⟩, fun _ => hN _ _ ⟨rfl, _, _, rfl⟩⟩
    · rintro σ h' ⟨rfl, b, o9, rfl⟩
      simp only [sSeq, sNil, sIf, sRet, sRetN, sSet, sAsg, sExpr, sNever, sFor, sNox, sBrk, sCont, sFldD, sAug, sAugS, dVar, dC, dOp, dI0, dII, dNeg, dInv, dAndV, dOrV, dNotV, dTst, dTru, dAnd, dOr, dNot, dIfE, dChn, dCall, dCallK, dMake, aNil, aCons, dTup, dLst, dLstH, dFldC, dCB, dBM, tgN, tgSub, iL, iT, iR1, iR2, DEnds.xx, dLc, dLcH, dYes, dSl, oNon, oSome, nI2, nTup, nLst, nLstH, mApp, wipeD, dIn, dIsN, dNotN, dAddH, dMulH, tru_bl, tru_int, add_int, add_tup, mul_int, len_tup, len_lst, len_fz, ne_int, eq_int, ne_bl, eq_bl, int_int, int_bl, ty_end, asL_lst, asL_fz, asS_tup, asS_lst, asS_fz, tgs_cons_eq, tgs_nil_eq, tg_tup_eq, tg_lst_eq, at_end, set_end, asS_end, asL_end, at_pre, set_pre, ty_pre, dTupRev, List.getElem?_cons_zero, List.getElem?_cons_succ, Option.some.injEq, exists_eq_left', exists_eq_left, exists_and_left, exists_and_right, and_assoc, D.int.injEq, D.bl.injEq, D.str.injEq, D.tup.injEq, D.lst.injEq, D.fz.injEq, D.ref.injEq, HB.lst.injEq, List.cons.injEq, and_true, true_and, List.set_cons_zero, List.set_cons_succ, List.map_cons, List.map_nil, List.length_cons, List.length_nil, Nat.reduceAdd, Nat.reduceSub, Nat.sub_self, Nat.zero_add, List.replicate_zero, List.replicate_succ, List.append_nil, List.cons_append, List.nil_append, decide_eq_true_eq, decide_eq_false_iff_not, Bool.not_eq_true', Bool.not_eq_false', Bool.true_eq_false, Bool.false_eq_true, false_implies, forall_const, true_implies, reduceCtorEq, and_false, false_and, Bool.not_true, Bool.not_false, if_true, if_false]
      exact ⟨fun _ => hN _ _ ⟨rfl, _, _, _, _, _, rfl⟩, fun _ => hN _ _ ⟨rfl, _, _, _, _, _, rfl⟩⟩
  · rintro σ h' ⟨rfl, m, o6, o7, o8, o9, rfl⟩
    simp only [sSeq, sNil, sIf, sRet, sRetN, sSet, sAsg, sExpr, sNever, sFor, sNox, sBrk, sCont, sFldD, sAug, sAugS, dVar, dC, dOp, dI0, dII, dNeg, dInv, dAndV, dOrV, dNotV, dTst, dTru, dAnd, dOr, dNot, dIfE, dChn, dCall, dCallK, dMake, aNil, aCons, dTup, dLst, dLstH, dFldC, dCB, dBM, tgN, tgSub, iL, iT, iR1, iR2, DEnds.xx, dLc, dLcH, dYes, dSl, oNon, oSome, nI2, nTup, nLst, nLstH, mApp, wipeD, dIn, dIsN, dNotN, dAddH, dMulH, tru_bl, tru_int, add_int, add_tup, mul_int, len_tup, len_lst, len_fz, ne_int, eq_int, ne_bl, eq_bl, int_int, int_bl, ty_end, asL_lst, asL_fz, asS_tup, asS_lst, asS_fz, tgs_cons_eq, tgs_nil_eq, tg_tup_eq, tg_lst_eq, at_end, set_end, asS_end, asL_end, at_pre, set_pre, ty_pre, dTupRev, List.getElem?_cons_zero, List.getElem?_cons_succ, Option.some.injEq, exists_eq_left', exists_eq_left, exists_and_left, exists_and_right, and_assoc, D.int.injEq, D.bl.injEq, D.str.injEq, D.tup.injEq, D.lst.injEq, D.fz.injEq, D.ref.injEq, HB.lst.injEq, List.cons.injEq, and_true, true_and, List.set_cons_zero, List.set_cons_succ, List.map_cons, List.map_nil, List.length_cons, List.length_nil, Nat.reduceAdd, Nat.reduceSub, Nat.sub_self, Nat.zero_add, List.replicate_zero, List.replicate_succ, List.append_nil, List.cons_append, List.nil_append, decide_eq_true_eq, decide_eq_false_iff_not, Bool.not_eq_true', Bool.not_eq_false', Bool.true_eq_false, Bool.false_eq_true, false_implies, forall_const, true_implies, reduceCtorEq, and_false, false_and, Bool.not_true, Bool.not_false, if_true, if_false]
    exact rt_keep (q m)
end L2.MW.K47

namespace L2.MW.K47
open PySem PySem.Spec PyProof.Rows L2 L2.MW
def seenL (m n : Nat) : List D := (List.range n).map fun j => D.bl (m.testBit j)
theorem seen_len {m n : Nat} : (seenL m n).length = n := by unfold seenL; rw [List.length_map, List.length_range]
theorem seen_at {m n k : Nat} (h : k < n) : atI (seenL m n) (k : Int) = some (.bl (m.testBit k)) := by
  refine atI_nat ?_
  unfold seenL
  rw [List.getElem?_map, List.getElem?_range h]; rfl
theorem seen_set {m n k : Nat} (h : k < n) : (seenL m n).set k (.bl true) = seenL (m ||| 2 ^ k) n := by
  apply List.ext_getElem?
  intro j
  unfold seenL
  by_cases e : k = j
  · subst e
    rw [List.getElem?_set_self (by rw [List.length_map, List.length_range]; exact h), List.getElem?_map, List.getElem?_range h]
    simp [Nat.testBit_or, Nat.testBit_two_pow]
  · rw [List.getElem?_set_ne e, List.getElem?_map, List.getElem?_map]
    by_cases hj : j < n
    · rw [List.getElem?_range hj]
      show some (D.bl _) = some (D.bl _)
      rw [Nat.testBit_or, Nat.testBit_two_pow, decide_eq_false e, Bool.or_false]
    · rw [List.getElem?_eq_none (by rw [List.length_range]; omega)]; rfl
theorem seen_0 (n : Nat) : (List.replicate n [D.bl false]).flatten = seenL 0 n := by
  have e : seenL 0 n = List.replicate n (.bl false) := by
    unfold seenL
    rw [List.map_congr_left (g := fun _ => D.bl false) (fun a _ => by rw [Nat.zero_testBit]), List.map_const', List.length_range]
  rw [e]
  induction n with
  | zero => rfl
  | succ n ih =>
    rw [List.replicate_succ, List.flatten_cons, List.replicate_succ, ih (by unfold seenL; rw [List.map_congr_left (g := fun _ => D.bl false) (fun a _ => by rw [Nat.zero_testBit]), List.map_const', List.length_range])]
    rfl
theorem rd_law_due (ds : List D) (h : DHp) (X : DX) (Q : DK) (hds : ds.length = 4) (c : ct__law_due ds h X Q) : tb__law_due (endsD h X Q) (startD N__law_due.length ds) h := by
  obtain ⟨n, cs, fs, d, rfl, hn, ok1, ok2, pl, ll, q⟩ := c
  have q' := rt_of (h0 := h) (X := X) q
  simp only [tb__law_due, startD, sSeq, sNil, sIf, sRet, sRetN, sSet, sAsg, sExpr, sNever, sFor, sNox, sBrk, sCont, sFldD, sAug, sAugS, dVar, dC, dOp, dI0, dII, dNeg, dInv, dAndV, dOrV, dNotV, dTst, dTru, dAnd, dOr, dNot, dIfE, dChn, dCall, dCallK, dMake, aNil, aCons, dTup, dLst, dLstH, dFldC, dCB, dBM, tgN, tgSub, iL, iT, iR1, iR2, DEnds.xx, dLc, dLcH, dYes, dSl, oNon, oSome, nI2, nTup, nLst, nLstH, mApp, wipeD, dIn, dIsN, dNotN, dAddH, dMulH, tru_bl, tru_int, add_int, add_tup, mul_int, len_tup, len_lst, len_fz, ne_int, eq_int, ne_bl, eq_bl, int_int, int_bl, ty_end, asL_lst, asL_fz, asS_tup, asS_lst, asS_fz, tgs_cons_eq, tgs_nil_eq, tg_tup_eq, tg_lst_eq, at_end, set_end, asS_end, asL_end, at_pre, set_pre, ty_pre, dTupRev, List.getElem?_cons_zero, List.getElem?_cons_succ, Option.some.injEq, exists_eq_left', exists_eq_left, exists_and_left, exists_and_right, and_assoc, D.int.injEq, D.bl.injEq, D.str.injEq, D.tup.injEq, D.lst.injEq, D.fz.injEq, D.ref.injEq, HB.lst.injEq, List.cons.injEq, and_true, true_and, List.set_cons_zero, List.set_cons_succ, List.map_cons, List.map_nil, List.length_cons, List.length_nil, Nat.reduceAdd, Nat.reduceSub, Nat.sub_self, Nat.zero_add, List.replicate_zero, List.replicate_succ, List.append_nil, List.cons_append, List.nil_append, decide_eq_true_eq, decide_eq_false_iff_not, Bool.not_eq_true', Bool.not_eq_false', Bool.true_eq_false, Bool.false_eq_true, false_implies, forall_const, true_implies, reduceCtorEq, and_false, false_and, Bool.not_true, Bool.not_false, if_true, if_false]
  refine (isi_t pl.1).mpr ?_
  rw [isT_tup pl.1]
  refine ⟨_, tru_bl, fun hb => ?_, fun hb => ?_⟩
  · have : okB n cs fs d = false := by cases d <;> first | rfl | cases hb
    rw [this] at q'; exact q'
  cases d with
  | tup l =>
    have ll' := ll l rfl
    simp only [sSeq, sNil, sIf, sRet, sRetN, sSet, sAsg, sExpr, sNever, sFor, sNox, sBrk, sCont, sFldD, sAug, sAugS, dVar, dC, dOp, dI0, dII, dNeg, dInv, dAndV, dOrV, dNotV, dTst, dTru, dAnd, dOr, dNot, dIfE, dChn, dCall, dCallK, dMake, aNil, aCons, dTup, dLst, dLstH, dFldC, dCB, dBM, tgN, tgSub, iL, iT, iR1, iR2, DEnds.xx, dLc, dLcH, dYes, dSl, oNon, oSome, nI2, nTup, nLst, nLstH, mApp, wipeD, dIn, dIsN, dNotN, dAddH, dMulH, tru_bl, tru_int, add_int, add_tup, mul_int, len_tup, len_lst, len_fz, ne_int, eq_int, ne_bl, eq_bl, int_int, int_bl, ty_end, asL_lst, asL_fz, asS_tup, asS_lst, asS_fz, tgs_cons_eq, tgs_nil_eq, tg_tup_eq, tg_lst_eq, at_end, set_end, asS_end, asL_end, at_pre, set_pre, ty_pre, dTupRev, List.getElem?_cons_zero, List.getElem?_cons_succ, Option.some.injEq, exists_eq_left', exists_eq_left, exists_and_left, exists_and_right, and_assoc, D.int.injEq, D.bl.injEq, D.str.injEq, D.tup.injEq, D.lst.injEq, D.fz.injEq, D.ref.injEq, HB.lst.injEq, List.cons.injEq, and_true, true_and, List.set_cons_zero, List.set_cons_succ, List.map_cons, List.map_nil, List.length_cons, List.length_nil, Nat.reduceAdd, Nat.reduceSub, Nat.sub_self, Nat.zero_add, List.replicate_zero, List.replicate_succ, List.append_nil, List.cons_append, List.nil_append, decide_eq_true_eq, decide_eq_false_iff_not, Bool.not_eq_true', Bool.not_eq_false', Bool.true_eq_false, Bool.false_eq_true, false_implies, forall_const, true_implies, reduceCtorEq, and_false, false_and, Bool.not_true, Bool.not_false, if_true, if_false]
    refine ⟨rgOk (by omega), ?_⟩
    rw [Int.toNat_natCast]
    have bad : subs n (-1) l = false → (endsD h X Q).rt (.bl false) h := fun e => by
      have : okB n cs fs (.tup l) = false := by show (subs _ _ _ && _) = false; rw [e]; rfl
      rw [this] at q'; exact q'
    refine forW_inv (rgD 0 l.length) (fun k σ h' => h' = h ∧ ∃ (last : Int) (o5 o6 o7 : Option D), σ = [some (.int n), some (.lst (prs cs)), some (.lst (prs fs)), some (.tup l), o5, o6, o7] ∧ subs n (-1) l = subs n last (l.drop k) ∧ -1 ≤ last ∧ (∀ j, k = j + 1 → l[j]? = some (.int last)) ∧ (k = 0 → last = -1)) ⟨rfl, -1, none, none, none, rfl, rfl, by omega, fun j hj => (by cases hj), fun _ => rfl⟩ (fun _ _ _ _ _ => trivial) ?_ ?_
    · rintro k x σ h' N hx ⟨rfl, last, o5, o6, o7, rfl, e, hl, hp, hz⟩ hN
      obtain ⟨rfl, hk⟩ := rg_get hx
      obtain ⟨y, hy⟩ := get_lt hk
      obtain ⟨_, hd, hm⟩ := drop_get hy
      have py := pl.2 l rfl y hm
      rw [hd, subs_step] at e
      simp only [sSeq, sNil, sIf, sRet, sRetN, sSet, sAsg, sExpr, sNever, sFor, sNox, sBrk, sCont, sFldD, sAug, sAugS, dVar, dC, dOp, dI0, dII, dNeg, dInv, dAndV, dOrV, dNotV, dTst, dTru, dAnd, dOr, dNot, dIfE, dChn, dCall, dCallK, dMake, aNil, aCons, dTup, dLst, dLstH, dFldC, dCB, dBM, tgN, tgSub, iL, iT, iR1, iR2, DEnds.xx, dLc, dLcH, dYes, dSl, oNon, oSome, nI2, nTup, nLst, nLstH, mApp, wipeD, dIn, dIsN, dNotN, dAddH, dMulH, tru_bl, tru_int, add_int, add_tup, mul_int, len_tup, len_lst, len_fz, ne_int, eq_int, ne_bl, eq_bl, int_int, int_bl, ty_end, asL_lst, asL_fz, asS_tup, asS_lst, asS_fz, tgs_cons_eq, tgs_nil_eq, tg_tup_eq, tg_lst_eq, at_end, set_end, asS_end, asL_end, at_pre, set_pre, ty_pre, dTupRev, List.getElem?_cons_zero, List.getElem?_cons_succ, Option.some.injEq, exists_eq_left', exists_eq_left, exists_and_left, exists_and_right, and_assoc, D.int.injEq, D.bl.injEq, D.str.injEq, D.tup.injEq, D.lst.injEq, D.fz.injEq, D.ref.injEq, HB.lst.injEq, List.cons.injEq, and_true, true_and, List.set_cons_zero, List.set_cons_succ, List.map_cons, List.map_nil, List.length_cons, List.length_nil, Nat.reduceAdd, Nat.reduceSub, Nat.sub_self, Nat.zero_add, List.replicate_zero, List.replicate_succ, List.append_nil, List.cons_append, List.nil_append, decide_eq_true_eq, decide_eq_false_iff_not, Bool.not_eq_true', Bool.not_eq_false', Bool.true_eq_false, Bool.false_eq_true, false_implies, forall_const, true_implies, reduceCtorEq, and_false, false_and, Bool.not_true, Bool.not_false, if_true, if_false, ix_tup (atI_nat hy), isi_b py, isi_i py]
      refine ⟨fun hb1 => ?_, fun hb1 => ⟨fun hb2 => ?_, fun hb2 => ?_⟩⟩
      · refine bad ?_
        rw [e]
        cases y <;> first | rfl | cases hb1
      · refine bad ?_
        rw [e]
        cases y <;> first | rfl | cases hb2
      · cases y with
        | int i =>
          simp only [sSeq, sNil, sIf, sRet, sRetN, sSet, sAsg, sExpr, sNever, sFor, sNox, sBrk, sCont, sFldD, sAug, sAugS, dVar, dC, dOp, dI0, dII, dNeg, dInv, dAndV, dOrV, dNotV, dTst, dTru, dAnd, dOr, dNot, dIfE, dChn, dCall, dCallK, dMake, aNil, aCons, dTup, dLst, dLstH, dFldC, dCB, dBM, tgN, tgSub, iL, iT, iR1, iR2, DEnds.xx, dLc, dLcH, dYes, dSl, oNon, oSome, nI2, nTup, nLst, nLstH, mApp, wipeD, dIn, dIsN, dNotN, dAddH, dMulH, tru_bl, tru_int, add_int, add_tup, mul_int, len_tup, len_lst, len_fz, ne_int, eq_int, ne_bl, eq_bl, int_int, int_bl, ty_end, asL_lst, asL_fz, asS_tup, asS_lst, asS_fz, tgs_cons_eq, tgs_nil_eq, tg_tup_eq, tg_lst_eq, at_end, set_end, asS_end, asL_end, at_pre, set_pre, ty_pre, dTupRev, List.getElem?_cons_zero, List.getElem?_cons_succ, Option.some.injEq, exists_eq_left', exists_eq_left, exists_and_left, exists_and_right, and_assoc, D.int.injEq, D.bl.injEq, D.str.injEq, D.tup.injEq, D.lst.injEq, D.fz.injEq, D.ref.injEq, HB.lst.injEq, List.cons.injEq, and_true, true_and, List.set_cons_zero, List.set_cons_succ, List.map_cons, List.map_nil, List.length_cons, List.length_nil, Nat.reduceAdd, Nat.reduceSub, Nat.sub_self, Nat.zero_add, List.replicate_zero, List.replicate_succ, List.append_nil, List.cons_append, List.nil_append, decide_eq_true_eq, decide_eq_false_iff_not, Bool.not_eq_true', Bool.not_eq_false', Bool.true_eq_false, Bool.false_eq_true, false_implies, forall_const, true_implies, reduceCtorEq, and_false, false_and, Bool.not_true, Bool.not_false, if_true, if_false]
          have fin : last + 1 ≤ i → i ≤ (n : Int) - 1 → N [some (.int n), some (.lst (prs cs)), some (.lst (prs fs)), some (.tup l), some (.int (k : Int)), o6, o7] h' := fun g1 g2 => hN _ _ ⟨rfl, i, _, _, _, rfl, by
            rw [e]
            have : btw (.int i) (last + 1) ((n : Int) - 1) = true := by simp [btw, g1, g2]
            rw [this]; rfl, by omega, fun j hj => by
            have : j = k := by omega
            subst this
            exact hy, fun z => by omega⟩
          have no : ¬ (last + 1 ≤ i ∧ i ≤ (n : Int) - 1) → (endsD h' X Q).rt (.bl false) h' := fun g => bad (by
            rw [e]
            have : btw (.int i) (last + 1) ((n : Int) - 1) = false := by
              simp only [btw, Bool.and_eq_false_iff, decide_eq_false_iff_not]
              omega
            rw [this]; rfl)
          refine ⟨fun g => no (by omega), fun g => ⟨fun g2 => no (by omega), fun g2 => ⟨fun gk => ?_, fun gk => ?_⟩⟩⟩
          · obtain ⟨j, rfl⟩ : ∃ j, k = j + 1 := ⟨k - 1, by omega⟩
            have hj := hp j rfl
            have e3 : ((j + 1 : Nat) : Int) - 1 = (j : Int) := by omega
            rw [e3, ix_tup (atI_nat hj)]
            exact ⟨_, rfl, fun g3 => no (by omega), fun g3 => fin (by omega) (by omega)⟩
          · have := hz (by omega)
            exact fin (by omega) (by omega)
        | bl _ => cases hb1
        | _ => cases hb2
    · rintro σ h' ⟨rfl, last, o5, o6, o7, rfl, e, hl, hp, hz⟩
      rw [rg_len, List.drop_length] at e
      have hs : subs n (-1) l = true := e
      obtain ⟨ns, rfl, hb2⟩ := subs_nats l (-1) (by omega) hs
      have hok := okB_nats (cs := cs) (fs := fs) hs
      have no : okB n cs fs (.tup (nats ns)) = false → ∀ g, (endsD h' X Q).rt (.bl false) (h' ++ g) := fun z g => rt_back trivial (by rw [z] at q; exact q)
      simp only [sSeq, sNil, sIf, sRet, sRetN, sSet, sAsg, sExpr, sNever, sFor, sNox, sBrk, sCont, sFldD, sAug, sAugS, dVar, dC, dOp, dI0, dII, dNeg, dInv, dAndV, dOrV, dNotV, dTst, dTru, dAnd, dOr, dNot, dIfE, dChn, dCall, dCallK, dMake, aNil, aCons, dTup, dLst, dLstH, dFldC, dCB, dBM, tgN, tgSub, iL, iT, iR1, iR2, DEnds.xx, dLc, dLcH, dYes, dSl, oNon, oSome, nI2, nTup, nLst, nLstH, mApp, wipeD, dIn, dIsN, dNotN, dAddH, dMulH, tru_bl, tru_int, add_int, add_tup, mul_int, len_tup, len_lst, len_fz, ne_int, eq_int, ne_bl, eq_bl, int_int, int_bl, ty_end, asL_lst, asL_fz, asS_tup, asS_lst, asS_fz, tgs_cons_eq, tgs_nil_eq, tg_tup_eq, tg_lst_eq, at_end, set_end, asS_end, asL_end, at_pre, set_pre, ty_pre, dTupRev, List.getElem?_cons_zero, List.getElem?_cons_succ, Option.some.injEq, exists_eq_left', exists_eq_left, exists_and_left, exists_and_right, and_assoc, D.int.injEq, D.bl.injEq, D.str.injEq, D.tup.injEq, D.lst.injEq, D.fz.injEq, D.ref.injEq, HB.lst.injEq, List.cons.injEq, and_true, true_and, List.set_cons_zero, List.set_cons_succ, List.map_cons, List.map_nil, List.length_cons, List.length_nil, Nat.reduceAdd, Nat.reduceSub, Nat.sub_self, Nat.zero_add, List.replicate_zero, List.replicate_succ, List.append_nil, List.cons_append, List.nil_append, decide_eq_true_eq, decide_eq_false_iff_not, Bool.not_eq_true', Bool.not_eq_false', Bool.true_eq_false, Bool.false_eq_true, false_implies, forall_const, true_implies, reduceCtorEq, and_false, false_and, Bool.not_true, Bool.not_false, if_true, if_false]
      refine ⟨small (by decide), _, rfl, by omega, by omega, by rw [Int.toNat_natCast]; exact small (by show 1 * n ≤ _; omega), ?_⟩
      rw [Int.toNat_natCast, seen_0]
      refine forW_inv (nats ns) (fun i σ h'' => ∃ o, h'' = h' ++ [.lst (seenL (maskN (ns.take i)) n)] ∧ σ = [some (.int n), some (.lst (prs cs)), some (.lst (prs fs)), some (.tup (nats ns)), o, some (.ref h'.length), o7]) ⟨_, rfl, rfl⟩ (fun _ _ _ _ _ => trivial) ?_ ?_
      · rintro i x σ h'' N hx ⟨o, rfl, rfl⟩ hN
        obtain ⟨k, hk, rfl, ht, _, hm⟩ := get_map hx
        have hkn := hb2 k hm
        simp only [sSeq, sNil, sIf, sRet, sRetN, sSet, sAsg, sExpr, sNever, sFor, sNox, sBrk, sCont, sFldD, sAug, sAugS, dVar, dC, dOp, dI0, dII, dNeg, dInv, dAndV, dOrV, dNotV, dTst, dTru, dAnd, dOr, dNot, dIfE, dChn, dCall, dCallK, dMake, aNil, aCons, dTup, dLst, dLstH, dFldC, dCB, dBM, tgN, tgSub, iL, iT, iR1, iR2, DEnds.xx, dLc, dLcH, dYes, dSl, oNon, oSome, nI2, nTup, nLst, nLstH, mApp, wipeD, dIn, dIsN, dNotN, dAddH, dMulH, tru_bl, tru_int, add_int, add_tup, mul_int, len_tup, len_lst, len_fz, ne_int, eq_int, ne_bl, eq_bl, int_int, int_bl, ty_end, asL_lst, asL_fz, asS_tup, asS_lst, asS_fz, tgs_cons_eq, tgs_nil_eq, tg_tup_eq, tg_lst_eq, at_end, set_end, asS_end, asL_end, at_pre, set_pre, ty_pre, dTupRev, List.getElem?_cons_zero, List.getElem?_cons_succ, Option.some.injEq, exists_eq_left', exists_eq_left, exists_and_left, exists_and_right, and_assoc, D.int.injEq, D.bl.injEq, D.str.injEq, D.tup.injEq, D.lst.injEq, D.fz.injEq, D.ref.injEq, HB.lst.injEq, List.cons.injEq, and_true, true_and, List.set_cons_zero, List.set_cons_succ, List.map_cons, List.map_nil, List.length_cons, List.length_nil, Nat.reduceAdd, Nat.reduceSub, Nat.sub_self, Nat.zero_add, List.replicate_zero, List.replicate_succ, List.append_nil, List.cons_append, List.nil_append, decide_eq_true_eq, decide_eq_false_iff_not, Bool.not_eq_true', Bool.not_eq_false', Bool.true_eq_false, Bool.false_eq_true, false_implies, forall_const, true_implies, reduceCtorEq, and_false, false_and, Bool.not_true, Bool.not_false, if_true, if_false]
        refine ⟨_, by rw [seen_len]; exact ixN_nat hkn, hN _ _ ⟨_, ?_, rfl⟩⟩
        rw [seen_set hkn, ht, maskN_app]
      · rintro σ h'' ⟨o, rfl, rfl⟩
        rw [nats_len, List.take_length]
        simp only [sSeq, sNil, sIf, sRet, sRetN, sSet, sAsg, sExpr, sNever, sFor, sNox, sBrk, sCont, sFldD, sAug, sAugS, dVar, dC, dOp, dI0, dII, dNeg, dInv, dAndV, dOrV, dNotV, dTst, dTru, dAnd, dOr, dNot, dIfE, dChn, dCall, dCallK, dMake, aNil, aCons, dTup, dLst, dLstH, dFldC, dCB, dBM, tgN, tgSub, iL, iT, iR1, iR2, DEnds.xx, dLc, dLcH, dYes, dSl, oNon, oSome, nI2, nTup, nLst, nLstH, mApp, wipeD, dIn, dIsN, dNotN, dAddH, dMulH, tru_bl, tru_int, add_int, add_tup, mul_int, len_tup, len_lst, len_fz, ne_int, eq_int, ne_bl, eq_bl, int_int, int_bl, ty_end, asL_lst, asL_fz, asS_tup, asS_lst, asS_fz, tgs_cons_eq, tgs_nil_eq, tg_tup_eq, tg_lst_eq, at_end, set_end, asS_end, asL_end, at_pre, set_pre, ty_pre, dTupRev, List.getElem?_cons_zero, List.getElem?_cons_succ, Option.some.injEq, exists_eq_left', exists_eq_left, exists_and_left, exists_and_right, and_assoc, D.int.injEq, D.bl.injEq, D.str.injEq, D.tup.injEq, D.lst.injEq, D.fz.injEq, D.ref.injEq, HB.lst.injEq, List.cons.injEq, and_true, true_and, List.set_cons_zero, List.set_cons_succ, List.map_cons, List.map_nil, List.length_cons, List.length_nil, Nat.reduceAdd, Nat.reduceSub, Nat.sub_self, Nat.zero_add, List.replicate_zero, List.replicate_succ, List.append_nil, List.cons_append, List.nil_append, decide_eq_true_eq, decide_eq_false_iff_not, Bool.not_eq_true', Bool.not_eq_false', Bool.true_eq_false, Bool.false_eq_true, false_implies, forall_const, true_implies, reduceCtorEq, and_false, false_and, Bool.not_true, Bool.not_false, if_true, if_false]
        refine forW_inv (prs cs) (fun i σ h'' => (cs.take i).all (gdC (maskN ns)) = true ∧ ∃ o o2, h'' = h' ++ [.lst (seenL (maskN ns) n)] ∧ σ = [some (.int n), some (.lst (prs cs)), some (.lst (prs fs)), some (.tup (nats ns)), o, some (.ref h'.length), o2]) ⟨rfl, _, _, rfl, rfl⟩ (fun _ _ _ _ _ => rfl) ?_ ?_
        · rintro i x σ h'' N hx ⟨ha, o, o2, rfl, rfl⟩ hN
          obtain ⟨p, hp, rfl, ht, _, hm⟩ := get_map hx
          obtain ⟨b1, b2, b3⟩ := ok1.bd p hm
          simp only [sSeq, sNil, sIf, sRet, sRetN, sSet, sAsg, sExpr, sNever, sFor, sNox, sBrk, sCont, sFldD, sAug, sAugS, dVar, dC, dOp, dI0, dII, dNeg, dInv, dAndV, dOrV, dNotV, dTst, dTru, dAnd, dOr, dNot, dIfE, dChn, dCall, dCallK, dMake, aNil, aCons, dTup, dLst, dLstH, dFldC, dCB, dBM, tgN, tgSub, iL, iT, iR1, iR2, DEnds.xx, dLc, dLcH, dYes, dSl, oNon, oSome, nI2, nTup, nLst, nLstH, mApp, wipeD, dIn, dIsN, dNotN, dAddH, dMulH, tru_bl, tru_int, add_int, add_tup, mul_int, len_tup, len_lst, len_fz, ne_int, eq_int, ne_bl, eq_bl, int_int, int_bl, ty_end, asL_lst, asL_fz, asS_tup, asS_lst, asS_fz, tgs_cons_eq, tgs_nil_eq, tg_tup_eq, tg_lst_eq, at_end, set_end, asS_end, asL_end, at_pre, set_pre, ty_pre, dTupRev, List.getElem?_cons_zero, List.getElem?_cons_succ, Option.some.injEq, exists_eq_left', exists_eq_left, exists_and_left, exists_and_right, and_assoc, D.int.injEq, D.bl.injEq, D.str.injEq, D.tup.injEq, D.lst.injEq, D.fz.injEq, D.ref.injEq, HB.lst.injEq, List.cons.injEq, and_true, true_and, List.set_cons_zero, List.set_cons_succ, List.map_cons, List.map_nil, List.length_cons, List.length_nil, Nat.reduceAdd, Nat.reduceSub, Nat.sub_self, Nat.zero_add, List.replicate_zero, List.replicate_succ, List.append_nil, List.cons_append, List.nil_append, decide_eq_true_eq, decide_eq_false_iff_not, Bool.not_eq_true', Bool.not_eq_false', Bool.true_eq_false, Bool.false_eq_true, false_implies, forall_const, true_implies, reduceCtorEq, and_false, false_and, Bool.not_true, Bool.not_false, if_true, if_false, prD_at, ix_ref at_end (seen_at b1), ix_ref at_end (seen_at b2)]
          have good : gdC (maskN ns) p = true → N [some (.int n), some (.lst (prs cs)), some (.lst (prs fs)), some (.tup (nats ns)), o, some (.ref h'.length), some (prN p)] (h' ++ [.lst (seenL (maskN ns) n)]) := fun g => hN _ _ ⟨all_take ha ht g, _, _, rfl, rfl⟩
          refine ⟨fun t2 => ⟨fun t1 => no (by rw [hok, all_bad hm (by simp [gdC, t1, t2])]; rfl) _, fun t1 => good (by simp [gdC, t1])⟩, fun t2 => good (by simp [gdC, t2])⟩
        · rintro σ h'' ⟨ha, o, o2, rfl, rfl⟩
          rw [prs_len, List.take_length] at ha
          simp only [sSeq, sNil, sIf, sRet, sRetN, sSet, sAsg, sExpr, sNever, sFor, sNox, sBrk, sCont, sFldD, sAug, sAugS, dVar, dC, dOp, dI0, dII, dNeg, dInv, dAndV, dOrV, dNotV, dTst, dTru, dAnd, dOr, dNot, dIfE, dChn, dCall, dCallK, dMake, aNil, aCons, dTup, dLst, dLstH, dFldC, dCB, dBM, tgN, tgSub, iL, iT, iR1, iR2, DEnds.xx, dLc, dLcH, dYes, dSl, oNon, oSome, nI2, nTup, nLst, nLstH, mApp, wipeD, dIn, dIsN, dNotN, dAddH, dMulH, tru_bl, tru_int, add_int, add_tup, mul_int, len_tup, len_lst, len_fz, ne_int, eq_int, ne_bl, eq_bl, int_int, int_bl, ty_end, asL_lst, asL_fz, asS_tup, asS_lst, asS_fz, tgs_cons_eq, tgs_nil_eq, tg_tup_eq, tg_lst_eq, at_end, set_end, asS_end, asL_end, at_pre, set_pre, ty_pre, dTupRev, List.getElem?_cons_zero, List.getElem?_cons_succ, Option.some.injEq, exists_eq_left', exists_eq_left, exists_and_left, exists_and_right, and_assoc, D.int.injEq, D.bl.injEq, D.str.injEq, D.tup.injEq, D.lst.injEq, D.fz.injEq, D.ref.injEq, HB.lst.injEq, List.cons.injEq, and_true, true_and, List.set_cons_zero, List.set_cons_succ, List.map_cons, List.map_nil, List.length_cons, List.length_nil, Nat.reduceAdd, Nat.reduceSub, Nat.sub_self, Nat.zero_add, List.replicate_zero, List.replicate_succ, List.append_nil, List.cons_append, List.nil_append, decide_eq_true_eq, decide_eq_false_iff_not, Bool.not_eq_true', Bool.not_eq_false', Bool.true_eq_false, Bool.false_eq_true, false_implies, forall_const, true_implies, reduceCtorEq, and_false, false_and, Bool.not_true, Bool.not_false, if_true, if_false]
          refine forW_inv (prs fs) (fun i σ h'' => (fs.take i).all (gdF (maskN ns)) = true ∧ ∃ o o2, h'' = h' ++ [.lst (seenL (maskN ns) n)] ∧ σ = [some (.int n), some (.lst (prs cs)), some (.lst (prs fs)), some (.tup (nats ns)), o, some (.ref h'.length), o2]) ⟨rfl, _, _, rfl, rfl⟩ (fun _ _ _ _ _ => rfl) ?_ ?_
          · rintro i x σ h'' N hx ⟨hf, o, o2, rfl, rfl⟩ hN
            obtain ⟨p, hp, rfl, ht, _, hm⟩ := get_map hx
            obtain ⟨b1, b2, b3⟩ := ok2.bd p hm
            simp only [sSeq, sNil, sIf, sRet, sRetN, sSet, sAsg, sExpr, sNever, sFor, sNox, sBrk, sCont, sFldD, sAug, sAugS, dVar, dC, dOp, dI0, dII, dNeg, dInv, dAndV, dOrV, dNotV, dTst, dTru, dAnd, dOr, dNot, dIfE, dChn, dCall, dCallK, dMake, aNil, aCons, dTup, dLst, dLstH, dFldC, dCB, dBM, tgN, tgSub, iL, iT, iR1, iR2, DEnds.xx, dLc, dLcH, dYes, dSl, oNon, oSome, nI2, nTup, nLst, nLstH, mApp, wipeD, dIn, dIsN, dNotN, dAddH, dMulH, tru_bl, tru_int, add_int, add_tup, mul_int, len_tup, len_lst, len_fz, ne_int, eq_int, ne_bl, eq_bl, int_int, int_bl, ty_end, asL_lst, asL_fz, asS_tup, asS_lst, asS_fz, tgs_cons_eq, tgs_nil_eq, tg_tup_eq, tg_lst_eq, at_end, set_end, asS_end, asL_end, at_pre, set_pre, ty_pre, dTupRev, List.getElem?_cons_zero, List.getElem?_cons_succ, Option.some.injEq, exists_eq_left', exists_eq_left, exists_and_left, exists_and_right, and_assoc, D.int.injEq, D.bl.injEq, D.str.injEq, D.tup.injEq, D.lst.injEq, D.fz.injEq, D.ref.injEq, HB.lst.injEq, List.cons.injEq, and_true, true_and, List.set_cons_zero, List.set_cons_succ, List.map_cons, List.map_nil, List.length_cons, List.length_nil, Nat.reduceAdd, Nat.reduceSub, Nat.sub_self, Nat.zero_add, List.replicate_zero, List.replicate_succ, List.append_nil, List.cons_append, List.nil_append, decide_eq_true_eq, decide_eq_false_iff_not, Bool.not_eq_true', Bool.not_eq_false', Bool.true_eq_false, Bool.false_eq_true, false_implies, forall_const, true_implies, reduceCtorEq, and_false, false_and, Bool.not_true, Bool.not_false, if_true, if_false, prD_at, ix_ref at_end (seen_at b1), ix_ref at_end (seen_at b2)]
            have good : gdF (maskN ns) p = true → N [some (.int n), some (.lst (prs cs)), some (.lst (prs fs)), some (.tup (nats ns)), o, some (.ref h'.length), some (prN p)] (h' ++ [.lst (seenL (maskN ns) n)]) := fun g => hN _ _ ⟨all_take hf ht g, _, _, rfl, rfl⟩
            refine ⟨fun t2 => ⟨fun t1 => no (by rw [hok, all_bad (l := fs) hm (by simp [gdF, t1, t2]), Bool.and_false]) _, fun t1 => good (by simp [gdF, t1])⟩, fun t2 => good (by simp [gdF, t2])⟩
          · rintro σ h'' ⟨hf, o, o2, rfl, rfl⟩
            rw [prs_len, List.take_length] at hf
            simp only [sSeq, sNil, sIf, sRet, sRetN, sSet, sAsg, sExpr, sNever, sFor, sNox, sBrk, sCont, sFldD, sAug, sAugS, dVar, dC, dOp, dI0, dII, dNeg, dInv, dAndV, dOrV, dNotV, dTst, dTru, dAnd, dOr, dNot, dIfE, dChn, dCall, dCallK, dMake, aNil, aCons, dTup, dLst, dLstH, dFldC, dCB, dBM, tgN, tgSub, iL, iT, iR1, iR2, DEnds.xx, dLc, dLcH, dYes, dSl, oNon, oSome, nI2, nTup, nLst, nLstH, mApp, wipeD, dIn, dIsN, dNotN, dAddH, dMulH, tru_bl, tru_int, add_int, add_tup, mul_int, len_tup, len_lst, len_fz, ne_int, eq_int, ne_bl, eq_bl, int_int, int_bl, ty_end, asL_lst, asL_fz, asS_tup, asS_lst, asS_fz, tgs_cons_eq, tgs_nil_eq, tg_tup_eq, tg_lst_eq, at_end, set_end, asS_end, asL_end, at_pre, set_pre, ty_pre, dTupRev, List.getElem?_cons_zero, List.getElem?_cons_succ, Option.some.injEq, exists_eq_left', exists_eq_left, exists_and_left, exists_and_right, and_assoc, D.int.injEq, D.bl.injEq, D.str.injEq, D.tup.injEq, D.lst.injEq, D.fz.injEq, D.ref.injEq, HB.lst.injEq, List.cons.injEq, and_true, true_and, List.set_cons_zero, List.set_cons_succ, List.map_cons, List.map_nil, List.length_cons, List.length_nil, Nat.reduceAdd, Nat.reduceSub, Nat.sub_self, Nat.zero_add, List.replicate_zero, List.replicate_succ, List.append_nil, List.cons_append, List.nil_append, decide_eq_true_eq, decide_eq_false_iff_not, Bool.not_eq_true', Bool.not_eq_false', Bool.true_eq_false, Bool.false_eq_true, false_implies, forall_const, true_implies, reduceCtorEq, and_false, false_and, Bool.not_true, Bool.not_false, if_true, if_false]
            rw [hok, ha, hf] at q
            exact rt_back trivial q
  | _ => cases hb
end L2.MW.K47

namespace L2.MW.K47
open PySem PySem.Spec PyProof.Rows L2 L2.MW
/-- closed plain data -/
def flat (d : D) : Prop := plB d = true ∧ ∀ m, Bd m d
theorem fl_int {i : Int} : flat (.int i) := ⟨rfl, fun _ => trivial⟩
theorem fl_bl {b : Bool} : flat (.bl b) := ⟨rfl, fun _ => trivial⟩
theorem fl_non : flat .non := ⟨rfl, fun _ => trivial⟩
theorem fl_str {x : Str} : flat (.str x) := ⟨rfl, fun _ => trivial⟩
theorem fl_tup {l : List D} (h : ∀ x ∈ l, flat x) : flat (.tup l) := ⟨rfl, fun m => Bds_all fun x hx => (h x hx).2 m⟩
theorem fl_nats {l : List Nat} : ∀ x ∈ nats l, flat x := fun x hx => by
  obtain ⟨a, _, rfl⟩ := List.mem_map.mp hx
  exact fl_int
theorem okV_tup {l : List D} (h : ∀ x ∈ l, flat x) (hl : l.length ≤ 10000) : okV (.tup l) := ⟨⟨rfl, fun l' e x hx => by cases e; exact (h x hx).1⟩, fun l' e => by cases e; exact hl, (fl_tup h).2⟩
theorem okV_flat {d : D} (h : flat d) (hn : tupB d = false) : okV d := ⟨⟨h.1, fun l e => by subst e; cases hn⟩, (fun l e => by subst e; cases hn), h.2⟩
theorem okV_lst {l : List D} (h : ∀ x ∈ l, flat x) : okV (.lst l) := okV_flat ⟨rfl, fun m => Bds_all fun x hx => (h x hx).2 m⟩ rfl
theorem okV_in {n m : Nat} (hn : n ≤ 39) : okV (.tup (nats ((List.range n).filter fun k => m.testBit k))) := okV_tup fl_nats (by
  rw [nats_len]
  have := List.length_filter_le (fun k => m.testBit k) (List.range n)
  rw [List.length_range] at this
  omega)
theorem ok_app {F : List D} {v : D} (h : ∀ v ∈ F, okV v) (hv : okV v) : ∀ w ∈ F ++ [v], okV w := fun w hw => by
  rcases List.mem_append.mp hw with hw | hw
  · exact h w hw
  · rw [List.mem_singleton.mp hw]; exact hv
theorem ok_nil : ∀ v ∈ ([] : List D), okV v := fun x hx => nomatch hx
theorem ok_cons {F : List D} {v : D} (hv : okV v) (h : ∀ v ∈ F, okV v) : ∀ w ∈ v :: F, okV w := fun w hw => by
  rcases List.mem_cons.mp hw with rfl | hw
  · exact hv
  · exact h w hw
theorem fl_app {l m : List D} (h : ∀ x ∈ l, flat x) (h2 : ∀ x ∈ m, flat x) : ∀ x ∈ l ++ m, flat x := fun x hx => (List.mem_append.mp hx).elim (h x) (h2 x)
theorem fl_cons {d : D} {m : List D} (h : flat d) (h2 : ∀ x ∈ m, flat x) : ∀ x ∈ d :: m, flat x := fun x hx => by
  rcases List.mem_cons.mp hx with rfl | hx
  · exact h
  · exact h2 x hx
theorem fl_nil : ∀ x ∈ ([] : List D), flat x := fun x hx => nomatch hx
theorem fl_cut {l : List D} {lo hi : Option Int} (h : ∀ x ∈ l, flat x) : ∀ x ∈ cutD l lo hi, flat x := fun x hx => h x (cut_mem hx)
theorem rd_law_values (ds : List D) (h : DHp) (X : DX) (Q : DK) (hds : ds.length = 4) (c : ct__law_values ds h X Q) : tb__law_values (endsD h X Q) (startD N__law_values.length ds) h := by
  obtain ⟨n, fs, m, dr, rfl, hn, ok, hdr, q⟩ := c
  simp only [tb__law_values, startD, sSeq, sNil, sIf, sRet, sRetN, sSet, sAsg, sExpr, sNever, sFor, sNox, sBrk, sCont, sFldD, sAug, sAugS, dVar, dC, dOp, dI0, dII, dNeg, dInv, dAndV, dOrV, dNotV, dTst, dTru, dAnd, dOr, dNot, dIfE, dChn, dCall, dCallK, dMake, aNil, aCons, dTup, dLst, dLstH, dFldC, dCB, dBM, tgN, tgSub, iL, iT, iR1, iR2, DEnds.xx, dLc, dLcH, dYes, dSl, oNon, oSome, nI2, nTup, nLst, nLstH, mApp, wipeD, dIn, dIsN, dNotN, dAddH, dMulH, tru_bl, tru_int, add_int, add_tup, mul_int, len_tup, len_lst, len_fz, ne_int, eq_int, ne_bl, eq_bl, int_int, int_bl, ty_end, asL_lst, asL_fz, asS_tup, asS_lst, asS_fz, tgs_cons_eq, tgs_nil_eq, tg_tup_eq, tg_lst_eq, at_end, set_end, asS_end, asL_end, at_pre, set_pre, ty_pre, dTupRev, List.getElem?_cons_zero, List.getElem?_cons_succ, Option.some.injEq, exists_eq_left', exists_eq_left, exists_and_left, exists_and_right, and_assoc, D.int.injEq, D.bl.injEq, D.str.injEq, D.tup.injEq, D.lst.injEq, D.fz.injEq, D.ref.injEq, HB.lst.injEq, List.cons.injEq, and_true, true_and, List.set_cons_zero, List.set_cons_succ, List.map_cons, List.map_nil, List.length_cons, List.length_nil, Nat.reduceAdd, Nat.reduceSub, Nat.sub_self, Nat.zero_add, List.replicate_zero, List.replicate_succ, List.append_nil, List.cons_append, List.nil_append, decide_eq_true_eq, decide_eq_false_iff_not, Bool.not_eq_true', Bool.not_eq_false', Bool.true_eq_false, Bool.false_eq_true, false_implies, forall_const, true_implies, reduceCtorEq, and_false, false_and, Bool.not_true, Bool.not_false, if_true, if_false]
  refine ⟨n, m, rfl, hn, ?_⟩
  obtain ⟨st, hst⟩ : ∃ st, st = (List.range n).filter fun k => m.testBit k := ⟨_, rfl⟩
  have stl : st.length ≤ 39 := by
    have := List.length_filter_le (fun k => m.testBit k) (List.range n)
    rw [List.length_range] at this
    rw [hst]; omega
  rw [← hst]
  simp only [sSeq, sNil, sIf, sRet, sRetN, sSet, sAsg, sExpr, sNever, sFor, sNox, sBrk, sCont, sFldD, sAug, sAugS, dVar, dC, dOp, dI0, dII, dNeg, dInv, dAndV, dOrV, dNotV, dTst, dTru, dAnd, dOr, dNot, dIfE, dChn, dCall, dCallK, dMake, aNil, aCons, dTup, dLst, dLstH, dFldC, dCB, dBM, tgN, tgSub, iL, iT, iR1, iR2, DEnds.xx, dLc, dLcH, dYes, dSl, oNon, oSome, nI2, nTup, nLst, nLstH, mApp, wipeD, dIn, dIsN, dNotN, dAddH, dMulH, tru_bl, tru_int, add_int, add_tup, mul_int, len_tup, len_lst, len_fz, ne_int, eq_int, ne_bl, eq_bl, int_int, int_bl, ty_end, asL_lst, asL_fz, asS_tup, asS_lst, asS_fz, tgs_cons_eq, tgs_nil_eq, tg_tup_eq, tg_lst_eq, at_end, set_end, asS_end, asL_end, at_pre, set_pre, ty_pre, dTupRev, List.getElem?_cons_zero, List.getElem?_cons_succ, Option.some.injEq, exists_eq_left', exists_eq_left, exists_and_left, exists_and_right, and_assoc, D.int.injEq, D.bl.injEq, D.str.injEq, D.tup.injEq, D.lst.injEq, D.fz.injEq, D.ref.injEq, HB.lst.injEq, List.cons.injEq, and_true, true_and, List.set_cons_zero, List.set_cons_succ, List.map_cons, List.map_nil, List.length_cons, List.length_nil, Nat.reduceAdd, Nat.reduceSub, Nat.sub_self, Nat.zero_add, List.replicate_zero, List.replicate_succ, List.append_nil, List.cons_append, List.nil_append, decide_eq_true_eq, decide_eq_false_iff_not, Bool.not_eq_true', Bool.not_eq_false', Bool.true_eq_false, Bool.false_eq_true, false_implies, forall_const, true_implies, reduceCtorEq, and_false, false_and, Bool.not_true, Bool.not_false, if_true, if_false]
  have fst : ∀ x ∈ nats st, flat x := fl_nats
  have z1 : (1 : Nat) ≤ sizeLine := small (by decide)
  refine ⟨small (by decide), rgOk (by omega), ?_⟩
  rw [Int.toNat_natCast]
  refine lc_map (fun d => d) (fun _ => true) (rgD 0 n) (fun _ => trivial) (small (by rw [rg_len]; omega)) ?_ ?_
  · intro x hx acc R hl hA hB
    simp only [sSeq, sNil, sIf, sRet, sRetN, sSet, sAsg, sExpr, sNever, sFor, sNox, sBrk, sCont, sFldD, sAug, sAugS, dVar, dC, dOp, dI0, dII, dNeg, dInv, dAndV, dOrV, dNotV, dTst, dTru, dAnd, dOr, dNot, dIfE, dChn, dCall, dCallK, dMake, aNil, aCons, dTup, dLst, dLstH, dFldC, dCB, dBM, tgN, tgSub, iL, iT, iR1, iR2, DEnds.xx, dLc, dLcH, dYes, dSl, oNon, oSome, nI2, nTup, nLst, nLstH, mApp, wipeD, dIn, dIsN, dNotN, dAddH, dMulH, tru_bl, tru_int, add_int, add_tup, mul_int, len_tup, len_lst, len_fz, ne_int, eq_int, ne_bl, eq_bl, int_int, int_bl, ty_end, asL_lst, asL_fz, asS_tup, asS_lst, asS_fz, tgs_cons_eq, tgs_nil_eq, tg_tup_eq, tg_lst_eq, at_end, set_end, asS_end, asL_end, at_pre, set_pre, ty_pre, dTupRev, List.getElem?_cons_zero, List.getElem?_cons_succ, Option.some.injEq, exists_eq_left', exists_eq_left, exists_and_left, exists_and_right, and_assoc, D.int.injEq, D.bl.injEq, D.str.injEq, D.tup.injEq, D.lst.injEq, D.fz.injEq, D.ref.injEq, HB.lst.injEq, List.cons.injEq, and_true, true_and, List.set_cons_zero, List.set_cons_succ, List.map_cons, List.map_nil, List.length_cons, List.length_nil, Nat.reduceAdd, Nat.reduceSub, Nat.sub_self, Nat.zero_add, List.replicate_zero, List.replicate_succ, List.append_nil, List.cons_append, List.nil_append, decide_eq_true_eq, decide_eq_false_iff_not, Bool.not_eq_true', Bool.not_eq_false', Bool.true_eq_false, Bool.false_eq_true, false_implies, forall_const, true_implies, reduceCtorEq, and_false, false_and, Bool.not_true, Bool.not_false, if_true, if_false]
    exact ⟨hl, hA rfl⟩
  have e0 : lcF (fun d => d) (fun _ => true) (rgD 0 n) = nats (List.range n) := by
    rw [rg_nats]
    unfold lcF
    rw [List.filter_eq_self.mpr (fun _ _ => rfl), List.map_id']
  rw [e0]
  refine ⟨_, rfl, Bds_nats, z1, small (by decide), smallL (by decide), rgOk (by omega), ?_⟩
  let J : Nat → DHp → Prop := fun k h' => ∃ F, h' = h ++ [.lst F] ∧ (∀ v ∈ F, okV v) ∧ F.length ≤ k
  refine forW_inv (rgD 0 n) (fun i σ h' => J (10 + i) h' ∧ ∃ o6 o7 o8 o9 o10, σ = [some (.int n), some (.lst (prs fs)), some (.int m), some (.lst (nats dr)), some (.tup (nats st)), some (.ref h.length), o6, o7, o8, o9, o10]) ⟨⟨_, rfl, ?_, Nat.le_refl _⟩, _, _, _, _, _, rfl⟩ (fun _ _ _ _ _ => trivial) ?_ ?_
  · refine ok_cons (okV_tup fst (by rw [nats_len]; omega)) (ok_cons (okV_tup fl_nil (Nat.zero_le _)) (ok_cons (okV_tup fl_nats (by rw [nats_len, List.length_range]; omega)) (ok_cons (okV_lst fst) (ok_cons (okV_tup (fun x hx => fst x (List.mem_reverse.mp hx)) (by rw [List.length_reverse, nats_len]; omega))
      (ok_cons (okV_tup (fl_cons (fl_tup fst) fl_nil) (by show 1 ≤ _; decide)) (ok_cons (okV_flat fl_non rfl) (ok_cons (okV_flat fl_int rfl) (ok_cons (okV_flat fl_str rfl) (ok_cons (okV_flat fl_bl rfl) fun x hx => nomatch hx)))))))))
  · rintro i x σ h' N hx ⟨⟨F, rfl, hF, lF⟩, o6, o7, o8, o9, o10, rfl⟩ hN
    obtain ⟨rfl, hi⟩ := rg_get hx
    simp only [sSeq, sNil, sIf, sRet, sRetN, sSet, sAsg, sExpr, sNever, sFor, sNox, sBrk, sCont, sFldD, sAug, sAugS, dVar, dC, dOp, dI0, dII, dNeg, dInv, dAndV, dOrV, dNotV, dTst, dTru, dAnd, dOr, dNot, dIfE, dChn, dCall, dCallK, dMake, aNil, aCons, dTup, dLst, dLstH, dFldC, dCB, dBM, tgN, tgSub, iL, iT, iR1, iR2, DEnds.xx, dLc, dLcH, dYes, dSl, oNon, oSome, nI2, nTup, nLst, nLstH, mApp, wipeD, dIn, dIsN, dNotN, dAddH, dMulH, tru_bl, tru_int, add_int, add_tup, mul_int, len_tup, len_lst, len_fz, ne_int, eq_int, ne_bl, eq_bl, int_int, int_bl, ty_end, asL_lst, asL_fz, asS_tup, asS_lst, asS_fz, tgs_cons_eq, tgs_nil_eq, tg_tup_eq, tg_lst_eq, at_end, set_end, asS_end, asL_end, at_pre, set_pre, ty_pre, dTupRev, List.getElem?_cons_zero, List.getElem?_cons_succ, Option.some.injEq, exists_eq_left', exists_eq_left, exists_and_left, exists_and_right, and_assoc, D.int.injEq, D.bl.injEq, D.str.injEq, D.tup.injEq, D.lst.injEq, D.fz.injEq, D.ref.injEq, HB.lst.injEq, List.cons.injEq, and_true, true_and, List.set_cons_zero, List.set_cons_succ, List.map_cons, List.map_nil, List.length_cons, List.length_nil, Nat.reduceAdd, Nat.reduceSub, Nat.sub_self, Nat.zero_add, List.replicate_zero, List.replicate_succ, List.append_nil, List.cons_append, List.nil_append, decide_eq_true_eq, decide_eq_false_iff_not, Bool.not_eq_true', Bool.not_eq_false', Bool.true_eq_false, Bool.false_eq_true, false_implies, forall_const, true_implies, reduceCtorEq, and_false, false_and, Bool.not_true, Bool.not_false, if_true, if_false]
    refine ⟨⟨by omega, by omega, by decide⟩, ?_⟩
    rw [bShl, Int.toNat_natCast, bXor]
    refine ⟨n, _, rfl, hn, ?_⟩
    simp only [sSeq, sNil, sIf, sRet, sRetN, sSet, sAsg, sExpr, sNever, sFor, sNox, sBrk, sCont, sFldD, sAug, sAugS, dVar, dC, dOp, dI0, dII, dNeg, dInv, dAndV, dOrV, dNotV, dTst, dTru, dAnd, dOr, dNot, dIfE, dChn, dCall, dCallK, dMake, aNil, aCons, dTup, dLst, dLstH, dFldC, dCB, dBM, tgN, tgSub, iL, iT, iR1, iR2, DEnds.xx, dLc, dLcH, dYes, dSl, oNon, oSome, nI2, nTup, nLst, nLstH, mApp, wipeD, dIn, dIsN, dNotN, dAddH, dMulH, tru_bl, tru_int, add_int, add_tup, mul_int, len_tup, len_lst, len_fz, ne_int, eq_int, ne_bl, eq_bl, int_int, int_bl, ty_end, asL_lst, asL_fz, asS_tup, asS_lst, asS_fz, tgs_cons_eq, tgs_nil_eq, tg_tup_eq, tg_lst_eq, at_end, set_end, asS_end, asL_end, at_pre, set_pre, ty_pre, dTupRev, List.getElem?_cons_zero, List.getElem?_cons_succ, Option.some.injEq, exists_eq_left', exists_eq_left, exists_and_left, exists_and_right, and_assoc, D.int.injEq, D.bl.injEq, D.str.injEq, D.tup.injEq, D.lst.injEq, D.fz.injEq, D.ref.injEq, HB.lst.injEq, List.cons.injEq, and_true, true_and, List.set_cons_zero, List.set_cons_succ, List.map_cons, List.map_nil, List.length_cons, List.length_nil, Nat.reduceAdd, Nat.reduceSub, Nat.sub_self, Nat.zero_add, List.replicate_zero, List.replicate_succ, List.append_nil, List.cons_append, List.nil_append, decide_eq_true_eq, decide_eq_false_iff_not, Bool.not_eq_true', Bool.not_eq_false', Bool.true_eq_false, Bool.false_eq_true, false_implies, forall_const, true_implies, reduceCtorEq, and_false, false_and, Bool.not_true, Bool.not_false, if_true, if_false]
    refine ⟨smallL (by omega), hN _ _ ⟨⟨_, rfl, ok_app hF (okV_in hn), by rw [List.length_append]; simp; omega⟩, _, _, _, _, _, rfl⟩⟩
  · rintro σ h' ⟨⟨F, rfl, hF, lF⟩, o6, o7, o8, o9, o10, rfl⟩
    rw [rg_len] at lF
    simp only [sSeq, sNil, sIf, sRet, sRetN, sSet, sAsg, sExpr, sNever, sFor, sNox, sBrk, sCont, sFldD, sAug, sAugS, dVar, dC, dOp, dI0, dII, dNeg, dInv, dAndV, dOrV, dNotV, dTst, dTru, dAnd, dOr, dNot, dIfE, dChn, dCall, dCallK, dMake, aNil, aCons, dTup, dLst, dLstH, dFldC, dCB, dBM, tgN, tgSub, iL, iT, iR1, iR2, DEnds.xx, dLc, dLcH, dYes, dSl, oNon, oSome, nI2, nTup, nLst, nLstH, mApp, wipeD, dIn, dIsN, dNotN, dAddH, dMulH, tru_bl, tru_int, add_int, add_tup, mul_int, len_tup, len_lst, len_fz, ne_int, eq_int, ne_bl, eq_bl, int_int, int_bl, ty_end, asL_lst, asL_fz, asS_tup, asS_lst, asS_fz, tgs_cons_eq, tgs_nil_eq, tg_tup_eq, tg_lst_eq, at_end, set_end, asS_end, asL_end, at_pre, set_pre, ty_pre, dTupRev, List.getElem?_cons_zero, List.getElem?_cons_succ, Option.some.injEq, exists_eq_left', exists_eq_left, exists_and_left, exists_and_right, and_assoc, D.int.injEq, D.bl.injEq, D.str.injEq, D.tup.injEq, D.lst.injEq, D.fz.injEq, D.ref.injEq, HB.lst.injEq, List.cons.injEq, and_true, true_and, List.set_cons_zero, List.set_cons_succ, List.map_cons, List.map_nil, List.length_cons, List.length_nil, Nat.reduceAdd, Nat.reduceSub, Nat.sub_self, Nat.zero_add, List.replicate_zero, List.replicate_succ, List.append_nil, List.cons_append, List.nil_append, decide_eq_true_eq, decide_eq_false_iff_not, Bool.not_eq_true', Bool.not_eq_false', Bool.true_eq_false, Bool.false_eq_true, false_implies, forall_const, true_implies, reduceCtorEq, and_false, false_and, Bool.not_true, Bool.not_false, if_true, if_false]
    have lst1 : (nats st).length + 1 ≤ sizeLine := small (by rw [nats_len]; omega)
    refine ⟨z1, lst1, z1, by omega, z1, lst1, z1, lst1, small (by decide), small (by decide), z1, z1, small (by decide), _, asX_ref at_end, _, rfl, small (by simp; omega), ?_⟩
    have okF : ∀ v ∈ F ++ [D.tup (nats st ++ [D.int (n : Int)]), D.tup (D.int (-1) :: nats st), D.tup (nats st ++ [D.non]), D.tup (nats st ++ [D.str (Str.ofString "0")]), D.tup [D.int 0, D.int 0], D.str (Str.ofString "0"), D.lst [], D.tup [D.bl false], D.tup [D.int 0]], okV v := by
      intro v hv
      rcases List.mem_append.mp hv with hv | hv
      · exact hF v hv
      · have sl : (nats st).length ≤ 39 := by rw [nats_len]; exact stl
        exact ok_cons (okV_tup (fl_app fst (fl_cons fl_int fl_nil)) (by simp; omega)) (ok_cons (okV_tup (fl_cons fl_int fst) (by simp; omega)) (ok_cons (okV_tup (fl_app fst (fl_cons fl_non fl_nil)) (by simp; omega)) (ok_cons (okV_tup (fl_app fst (fl_cons fl_str fl_nil)) (by simp; omega))
          (ok_cons (okV_tup (fl_cons fl_int (fl_cons fl_int fl_nil)) (by show 2 ≤ _; decide)) (ok_cons (okV_flat fl_str rfl) (ok_cons (okV_lst fl_nil) (ok_cons (okV_tup (fl_cons fl_bl fl_nil) (by show 1 ≤ _; decide)) (ok_cons (okV_tup (fl_cons fl_int fl_nil) (by show 1 ≤ _; decide)) ok_nil)))))))) v hv
    generalize eF : F ++ [D.tup (nats st ++ [D.int (n : Int)]), D.tup (D.int (-1) :: nats st), D.tup (nats st ++ [D.non]), D.tup (nats st ++ [D.str (Str.ofString "0")]), D.tup [D.int 0, D.int 0], D.str (Str.ofString "0"), D.lst [], D.tup [D.bl false], D.tup [D.int 0]] = F1 at okF ⊢
    have lF1 : F1.length ≤ 60 := by rw [← eF, List.length_append]; simp; omega
    generalize eh : h ++ [HB.lst F] = h1
    have hle : h1.length = h.length + 1 := by rw [← eh, List.length_append]; rfl
    refine forW_inv _ (fun i σ h' => (∃ F2, h' = h1 ++ [.lst F2] ∧ (∀ v ∈ F2, okV v) ∧ F2.length ≤ 60 + 2 * i) ∧ ∃ o6 o7 o8 o9 o10, σ = [some (.int n), some (.lst (prs fs)), some (.int m), some (.lst (nats dr)), some (.tup (nats st)), some (.ref h1.length), o6, o7, o8, o9, o10]) ⟨⟨F1, rfl, okF, by omega⟩, _, _, _, _, _, rfl⟩ (fun _ _ _ _ _ => rfl) ?_ ?_
    · rintro i x σ h' N hx ⟨⟨F2, rfl, hF2, lF2⟩, o6, o7, o8, o9, o10, rfl⟩ hN
      obtain ⟨p, hp, rfl⟩ := List.mem_map.mp (cut_mem (List.mem_of_getElem? hx))
      have hi : i < 2000 := by
        have h1 := (List.getElem?_eq_some_iff.mp hx).1
        have h2 := cut_len (l := prs fs) (lo := none) (hi := some 5)
        rw [prs_len] at h2
        have := ok.few
        omega
      obtain ⟨b1, b2, b3⟩ := ok.bd p hp
      simp only [sSeq, sNil, sIf, sRet, sRetN, sSet, sAsg, sExpr, sNever, sFor, sNox, sBrk, sCont, sFldD, sAug, sAugS, dVar, dC, dOp, dI0, dII, dNeg, dInv, dAndV, dOrV, dNotV, dTst, dTru, dAnd, dOr, dNot, dIfE, dChn, dCall, dCallK, dMake, aNil, aCons, dTup, dLst, dLstH, dFldC, dCB, dBM, tgN, tgSub, iL, iT, iR1, iR2, DEnds.xx, dLc, dLcH, dYes, dSl, oNon, oSome, nI2, nTup, nLst, nLstH, mApp, wipeD, dIn, dIsN, dNotN, dAddH, dMulH, tru_bl, tru_int, add_int, add_tup, mul_int, len_tup, len_lst, len_fz, ne_int, eq_int, ne_bl, eq_bl, int_int, int_bl, ty_end, asL_lst, asL_fz, asS_tup, asS_lst, asS_fz, tgs_cons_eq, tgs_nil_eq, tg_tup_eq, tg_lst_eq, at_end, set_end, asS_end, asL_end, at_pre, set_pre, ty_pre, dTupRev, List.getElem?_cons_zero, List.getElem?_cons_succ, Option.some.injEq, exists_eq_left', exists_eq_left, exists_and_left, exists_and_right, and_assoc, D.int.injEq, D.bl.injEq, D.str.injEq, D.tup.injEq, D.lst.injEq, D.fz.injEq, D.ref.injEq, HB.lst.injEq, List.cons.injEq, and_true, true_and, List.set_cons_zero, List.set_cons_succ, List.map_cons, List.map_nil, List.length_cons, List.length_nil, Nat.reduceAdd, Nat.reduceSub, Nat.sub_self, Nat.zero_add, List.replicate_zero, List.replicate_succ, List.append_nil, List.cons_append, List.nil_append, decide_eq_true_eq, decide_eq_false_iff_not, Bool.not_eq_true', Bool.not_eq_false', Bool.true_eq_false, Bool.false_eq_true, false_implies, forall_const, true_implies, reduceCtorEq, and_false, false_and, Bool.not_true, Bool.not_false, if_true, if_false, prD_at]
      have cp : ∀ k : Nat, k < n → CPow 1 (k : Int) := fun k hk => ⟨by omega, by omega, by decide⟩
      refine ⟨cp _ b1, cp _ b2, ?_⟩
      simp only [bShl, Int.toNat_natCast, bOr]
      refine ⟨n, _, rfl, hn, ?_⟩
      simp only [sSeq, sNil, sIf, sRet, sRetN, sSet, sAsg, sExpr, sNever, sFor, sNox, sBrk, sCont, sFldD, sAug, sAugS, dVar, dC, dOp, dI0, dII, dNeg, dInv, dAndV, dOrV, dNotV, dTst, dTru, dAnd, dOr, dNot, dIfE, dChn, dCall, dCallK, dMake, aNil, aCons, dTup, dLst, dLstH, dFldC, dCB, dBM, tgN, tgSub, iL, iT, iR1, iR2, DEnds.xx, dLc, dLcH, dYes, dSl, oNon, oSome, nI2, nTup, nLst, nLstH, mApp, wipeD, dIn, dIsN, dNotN, dAddH, dMulH, tru_bl, tru_int, add_int, add_tup, mul_int, len_tup, len_lst, len_fz, ne_int, eq_int, ne_bl, eq_bl, int_int, int_bl, ty_end, asL_lst, asL_fz, asS_tup, asS_lst, asS_fz, tgs_cons_eq, tgs_nil_eq, tg_tup_eq, tg_lst_eq, at_end, set_end, asS_end, asL_end, at_pre, set_pre, ty_pre, dTupRev, List.getElem?_cons_zero, List.getElem?_cons_succ, Option.some.injEq, exists_eq_left', exists_eq_left, exists_and_left, exists_and_right, and_assoc, D.int.injEq, D.bl.injEq, D.str.injEq, D.tup.injEq, D.lst.injEq, D.fz.injEq, D.ref.injEq, HB.lst.injEq, List.cons.injEq, and_true, true_and, List.set_cons_zero, List.set_cons_succ, List.map_cons, List.map_nil, List.length_cons, List.length_nil, Nat.reduceAdd, Nat.reduceSub, Nat.sub_self, Nat.zero_add, List.replicate_zero, List.replicate_succ, List.append_nil, List.cons_append, List.nil_append, decide_eq_true_eq, decide_eq_false_iff_not, Bool.not_eq_true', Bool.not_eq_false', Bool.true_eq_false, Bool.false_eq_true, false_implies, forall_const, true_implies, reduceCtorEq, and_false, false_and, Bool.not_true, Bool.not_false, if_true, if_false, prD_at]
      refine ⟨smallL (by omega), small (by decide), smallL (by rw [List.length_append]; simp; omega), hN _ _ ⟨⟨_, rfl, ok_app (ok_app hF2 (okV_in hn)) (okV_tup (fl_cons fl_int (fl_cons fl_int fl_nil)) (by show 2 ≤ _; decide)), by simp; omega⟩, _, _, _, _, _, rfl⟩⟩
    · rintro σ h' ⟨⟨F2, rfl, hF2, lF2⟩, o6, o7, o8, o9, o10, rfl⟩
      have hl2 : (cutD (prs fs) none (some 5)).length ≤ 2000 := by
        have h2 := cut_len (l := prs fs) (lo := none) (hi := some 5)
        rw [prs_len] at h2
        have := ok.few
        omega
      have fin : ∀ (F : List D) (g : DHp), (∀ v ∈ F, okV v) → (endsD h X Q).rt (.ref h1.length) (h1 ++ [.lst F] ++ g) := fun F' g hF' => by
        refine rt_frzG (g := [.lst F] ++ ([.lst F'] ++ g)) (by rw [← eh]; simp) (by omega) (by rw [List.append_assoc, at_0]; rfl) (Bds_all fun v hv => (hF' v hv).2.2 _) (q F' hF')
      simp only [sSeq, sNil, sIf, sRet, sRetN, sSet, sAsg, sExpr, sNever, sFor, sNox, sBrk, sCont, sFldD, sAug, sAugS, dVar, dC, dOp, dI0, dII, dNeg, dInv, dAndV, dOrV, dNotV, dTst, dTru, dAnd, dOr, dNot, dIfE, dChn, dCall, dCallK, dMake, aNil, aCons, dTup, dLst, dLstH, dFldC, dCB, dBM, tgN, tgSub, iL, iT, iR1, iR2, DEnds.xx, dLc, dLcH, dYes, dSl, oNon, oSome, nI2, nTup, nLst, nLstH, mApp, wipeD, dIn, dIsN, dNotN, dAddH, dMulH, tru_bl, tru_int, add_int, add_tup, mul_int, len_tup, len_lst, len_fz, ne_int, eq_int, ne_bl, eq_bl, int_int, int_bl, ty_end, asL_lst, asL_fz, asS_tup, asS_lst, asS_fz, tgs_cons_eq, tgs_nil_eq, tg_tup_eq, tg_lst_eq, at_end, set_end, asS_end, asL_end, at_pre, set_pre, ty_pre, dTupRev, List.getElem?_cons_zero, List.getElem?_cons_succ, Option.some.injEq, exists_eq_left', exists_eq_left, exists_and_left, exists_and_right, and_assoc, D.int.injEq, D.bl.injEq, D.str.injEq, D.tup.injEq, D.lst.injEq, D.fz.injEq, D.ref.injEq, HB.lst.injEq, List.cons.injEq, and_true, true_and, List.set_cons_zero, List.set_cons_succ, List.map_cons, List.map_nil, List.length_cons, List.length_nil, Nat.reduceAdd, Nat.reduceSub, Nat.sub_self, Nat.zero_add, List.replicate_zero, List.replicate_succ, List.append_nil, List.cons_append, List.nil_append, decide_eq_true_eq, decide_eq_false_iff_not, Bool.not_eq_true', Bool.not_eq_false', Bool.true_eq_false, Bool.false_eq_true, false_implies, forall_const, true_implies, reduceCtorEq, and_false, false_and, Bool.not_true, Bool.not_false, if_true, if_false]
      have fin0 : ∀ (F : List D), (∀ v ∈ F, okV v) → (endsD h X Q).rt (.ref h1.length) (h1 ++ [.lst F]) := fun F' hF' => by
        have := fin F' [] hF'
        rwa [List.append_nil] at this
      refine ⟨fun hpos => ?_, fun _ => fin0 F2 hF2⟩
      have sp : 0 < st.length := by rw [nats_len] at hpos; omega
      obtain ⟨a, ha⟩ := get_lt (l := dr) (i := 0) (by omega)
      obtain ⟨b, hb⟩ := get_lt (l := dr) (i := 1) (by omega)
      have hd0 : atI (nats dr) 0 = some (.int (a : Int)) := nats_at (e := 0) ha
      have hd1 : atI (nats dr) 1 = some (.int (b : Int)) := nats_at (e := 1) hb
      have pa : a % st.length < st.length := Nat.mod_lt _ sp
      have pb : b % st.length < st.length := Nat.mod_lt _ sp
      obtain ⟨sa, hsa⟩ := get_lt pa
      obtain ⟨sb, hsb⟩ := get_lt pb
      obtain ⟨s0, hs0⟩ := get_lt sp
      have ht0 : atI (nats st) 0 = some (.int (s0 : Int)) := nats_at (e := 0) hs0
      have ixa : ixN st.length ((a % st.length : Nat) : Int) = some (a % st.length) := ixN_nat pa
      have ixb : ixN st.length ((b % st.length : Nat) : Int) = some (b % st.length) := ixN_nat pb
      simp only [ix_lst hd0, ix_lst hd1, nats_len, mod_nat, List.getElem?_cons_zero, List.getElem?_cons_succ, Option.some.injEq, exists_eq_left', exists_eq_left, exists_and_left, exists_and_right, and_assoc, D.int.injEq, D.bl.injEq, D.str.injEq, D.tup.injEq, D.lst.injEq, D.fz.injEq, D.ref.injEq, HB.lst.injEq, List.cons.injEq, and_true, true_and, List.set_cons_zero, List.set_cons_succ, List.map_cons, List.map_nil, List.length_cons, List.length_nil, Nat.reduceAdd, Nat.reduceSub, Nat.sub_self, Nat.zero_add, List.replicate_zero, List.replicate_succ, List.append_nil, List.cons_append, List.nil_append, decide_eq_true_eq, decide_eq_false_iff_not, Bool.not_eq_true', Bool.not_eq_false', Bool.true_eq_false, Bool.false_eq_true, false_implies, forall_const, true_implies, reduceCtorEq, and_false, false_and, Bool.not_true, Bool.not_false, if_true, if_false]
      generalize a % st.length = at_ at *
      generalize b % st.length = near at *
      simp only [sSeq, sNil, sIf, sRet, sRetN, sSet, sAsg, sExpr, sNever, sFor, sNox, sBrk, sCont, sFldD, sAug, sAugS, dVar, dC, dOp, dI0, dII, dNeg, dInv, dAndV, dOrV, dNotV, dTst, dTru, dAnd, dOr, dNot, dIfE, dChn, dCall, dCallK, dMake, aNil, aCons, dTup, dLst, dLstH, dFldC, dCB, dBM, tgN, tgSub, iL, iT, iR1, iR2, DEnds.xx, dLc, dLcH, dYes, dSl, oNon, oSome, nI2, nTup, nLst, nLstH, mApp, wipeD, dIn, dIsN, dNotN, dAddH, dMulH, tru_bl, tru_int, add_int, add_tup, mul_int, len_tup, len_lst, len_fz, ne_int, eq_int, ne_bl, eq_bl, int_int, int_bl, ty_end, asL_lst, asL_fz, asS_tup, asS_lst, asS_fz, tgs_cons_eq, tgs_nil_eq, tg_tup_eq, tg_lst_eq, at_end, set_end, asS_end, asL_end, at_pre, set_pre, ty_pre, dTupRev, List.getElem?_cons_zero, List.getElem?_cons_succ, Option.some.injEq, exists_eq_left', exists_eq_left, exists_and_left, exists_and_right, and_assoc, D.int.injEq, D.bl.injEq, D.str.injEq, D.tup.injEq, D.lst.injEq, D.fz.injEq, D.ref.injEq, HB.lst.injEq, List.cons.injEq, and_true, true_and, List.set_cons_zero, List.set_cons_succ, List.map_cons, List.map_nil, List.length_cons, List.length_nil, Nat.reduceAdd, Nat.reduceSub, Nat.sub_self, Nat.zero_add, List.replicate_zero, List.replicate_succ, List.append_nil, List.cons_append, List.nil_append, decide_eq_true_eq, decide_eq_false_iff_not, Bool.not_eq_true', Bool.not_eq_false', Bool.true_eq_false, Bool.false_eq_true, false_implies, forall_const, true_implies, reduceCtorEq, and_false, false_and, Bool.not_true, Bool.not_false, if_true, if_false, ix_lst hd0, ix_lst hd1, nats_len, mod_nat, ix_tup (nats_at hsa), ix_tup (nats_at hsb), ix_tup ht0, List.length_set, ixa, ixb]
      have last : ∀ (F' G : List D), (∀ v ∈ F', okV v) → F'.length ≤ 5000 → dInT false (.int 1) (.tup (nats st)) (h1 ++ [.lst F'] ++ [.lst G]) fun d h' => ∃ b, d = D.bl b ∧ (b = true → tyM "list" h' (D.ref h1.length) ∧
          lcH (tgN 6) dYes (dOp dIx (dLst (aCons (dVar 6) (aCons (dC (D.bl true)) aNil))) (dCB nInt (aCons (dOp dEq (dVar 6) (dC (D.int 1))) aNil))) (fun x => True) h'.length
            [some (D.int n), some (D.lst (prs fs)), some (D.int m), some (D.lst (nats dr)), some (D.tup (nats st)), some (D.ref h1.length), none, o7, some (D.int at_), some (D.int near), some (D.ref (h1 ++ [HB.lst F2]).length)]
            (nats st) (h' ++ [HB.lst []]) fun h'_1 => ∃ acc, h'_1 = h' ++ [HB.lst acc] ∧ Bds h'.length acc ∧ ∃ x, h'[h1.length]? = some (HB.lst x) ∧ x.length < sizeLine ∧ (endsD h X Q).rt (D.ref h1.length) (List.set h' h1.length (HB.lst (x ++ [D.tup acc])))) ∧ (b = false → (endsD h X Q).rt (D.ref h1.length) h') := by
        intro F' G hF' lF'
        refine ⟨1, st.map fun (k : Nat) => (k : Int), rfl, by unfold nats; rw [List.map_map]; rfl, _, rfl, fun _ => ⟨ty_pre.mpr trivial, ?_⟩, fun _ => fin F' [.lst G] hF'⟩
        refine lc_map (fun d => if iOf d == 1 then .bl true else d) (fun _ => true) (nats st) (fun _ => trivial) (small (by rw [nats_len]; omega)) ?_ ?_
        · intro x hx acc R hl hA hB
          obtain ⟨k, hk, rfl⟩ := List.mem_map.mp hx
          have hA' := hA rfl
          rw [iOf_int] at hA'
          simp only [sSeq, sNil, sIf, sRet, sRetN, sSet, sAsg, sExpr, sNever, sFor, sNox, sBrk, sCont, sFldD, sAug, sAugS, dVar, dC, dOp, dI0, dII, dNeg, dInv, dAndV, dOrV, dNotV, dTst, dTru, dAnd, dOr, dNot, dIfE, dChn, dCall, dCallK, dMake, aNil, aCons, dTup, dLst, dLstH, dFldC, dCB, dBM, tgN, tgSub, iL, iT, iR1, iR2, DEnds.xx, dLc, dLcH, dYes, dSl, oNon, oSome, nI2, nTup, nLst, nLstH, mApp, wipeD, dIn, dIsN, dNotN, dAddH, dMulH, tru_bl, tru_int, add_int, add_tup, mul_int, len_tup, len_lst, len_fz, ne_int, eq_int, ne_bl, eq_bl, int_int, int_bl, ty_end, asL_lst, asL_fz, asS_tup, asS_lst, asS_fz, tgs_cons_eq, tgs_nil_eq, tg_tup_eq, tg_lst_eq, at_end, set_end, asS_end, asL_end, at_pre, set_pre, ty_pre, dTupRev, List.getElem?_cons_zero, List.getElem?_cons_succ, Option.some.injEq, exists_eq_left', exists_eq_left, exists_and_left, exists_and_right, and_assoc, D.int.injEq, D.bl.injEq, D.str.injEq, D.tup.injEq, D.lst.injEq, D.fz.injEq, D.ref.injEq, HB.lst.injEq, List.cons.injEq, and_true, true_and, List.set_cons_zero, List.set_cons_succ, List.map_cons, List.map_nil, List.length_cons, List.length_nil, Nat.reduceAdd, Nat.reduceSub, Nat.sub_self, Nat.zero_add, List.replicate_zero, List.replicate_succ, List.append_nil, List.cons_append, List.nil_append, decide_eq_true_eq, decide_eq_false_iff_not, Bool.not_eq_true', Bool.not_eq_false', Bool.true_eq_false, Bool.false_eq_true, false_implies, forall_const, true_implies, reduceCtorEq, and_false, false_and, Bool.not_true, Bool.not_false, if_true, if_false]
          refine ⟨small (by decide), ?_⟩
          by_cases e : (k : Int) = 1
          · rw [e] at hA' ⊢
            refine ix_of (d := .bl true) rfl atI_1 ⟨acc, at_end, ?_, ?_⟩
            · exact hl
            · rw [set_end]; simpa using hA'
          · have e2 : ((k : Int) == 1) = false := by simpa using e
            rw [e2] at hA' ⊢
            refine ix_of (d := .int k) rfl atI_0 ⟨acc, at_end, ?_, ?_⟩
            · exact hl
            · rw [set_end]; simpa using hA'
        · have fl : ∀ x ∈ lcF (fun d => if iOf d == 1 then D.bl true else d) (fun _ => true) (nats st), flat x := fun x hx => by
            obtain ⟨y, hy, rfl⟩ := List.mem_map.mp hx
            have hy' := fst y ((List.mem_filter.mp hy).1)
            by_cases e : (iOf y == 1) = true
            · show flat (if iOf y == 1 then _ else _)
              rw [if_pos e]; exact fl_bl
            · show flat (if iOf y == 1 then _ else _)
              rw [if_neg e]; exact hy'
          have ll : (lcF (fun d => if iOf d == 1 then D.bl true else d) (fun _ => true) (nats st)).length ≤ 39 := by
            unfold lcF
            rw [List.length_map]
            have := List.length_filter_le (fun _ => true) (nats st)
            rw [nats_len] at this
            omega
          refine ⟨_, rfl, Bds_all fun x hx => (fl x hx).2 _, F', at_pre, smallL (by omega), ?_⟩
          rw [set_pre]
          exact fin _ [.lst G] (ok_app hF' (okV_tup fl (by omega)))
      have c1 : ∀ lo hi, (cutD (nats st) lo hi).length ≤ 39 := fun lo hi => by
        have := cut_len (l := nats st) (lo := lo) (hi := hi)
        rw [nats_len] at this
        omega
      have fc : ∀ lo hi, ∀ x ∈ cutD (nats st) lo hi, flat x := fun lo hi => fl_cut fst
      have w1 : okV (D.tup (((nats st).set at_ (D.int (sb : Int))).set near (D.int (sa : Int)))) := okV_tup (fun x hx => by
        rcases List.mem_or_eq_of_mem_set hx with hx | rfl
        · rcases List.mem_or_eq_of_mem_set hx with hx | rfl
          · exact fst x hx
          · exact fl_int
        · exact fl_int) (by rw [List.length_set, List.length_set, nats_len]; omega)
      have w2 : okV (D.tup (cutD (nats st) none (some (at_ : Int)) ++ [D.int (sa : Int)] ++ cutD (nats st) (some (at_ : Int)) none)) := okV_tup (fl_app (fl_app (fc _ _) (fl_cons fl_int fl_nil)) (fc _ _)) (by
        have := c1 none (some (at_ : Int)); have := c1 (some (at_ : Int)) none
        simp; omega)
      have w3 : okV (D.tup (cutD (nats st) none (some (at_ : Int)) ++ [D.tup (cutD (nats st) (some (at_ : Int)) (some ((at_ : Int) + 1)))] ++ cutD (nats st) (some ((at_ : Int) + 1)) none)) := okV_tup (fl_app (fl_app (fc _ _) (fl_cons (fl_tup (fc _ _)) fl_nil)) (fc _ _)) (by
        have := c1 none (some (at_ : Int)); have := c1 (some ((at_ : Int) + 1)) none
        simp; omega)
      have w4 : okV (D.tup (D.bl ((s0 : Int) == 1) :: cutD (nats st) (some 1) none)) := okV_tup (fl_cons fl_bl (fc _ _)) (by
        have := c1 (some 1) none
        simp; omega)
      have z2 := c1 none (some (at_ : Int))
      have z3 := c1 (some (at_ : Int)) none
      have z4 := c1 (some ((at_ : Int) + 1)) none
      have z5 := c1 (some 1) none
      refine ⟨by omega, by omega, smallL (by omega), z1, small (by omega), small (by simp; omega), smallL (by simp; omega), z1, small (by omega), small (by simp; omega), smallL (by simp; omega), fun _ => ⟨z1, small (by omega), smallL (by simp; omega), ?_⟩, fun _ => ?_⟩
      · exact last _ _ (ok_app (ok_app (ok_app (ok_app hF2 w1) w2) w3) w4) (by simp; omega)
      · exact last _ _ (ok_app (ok_app (ok_app hF2 w1) w2) w3) (by simp; omega)
end L2.MW.K47

namespace L2.MW.K47
open PySem PySem.Spec PyProof.Rows L2 L2.MW
/-- one of a few small numbers, by a rest -/
theorem pick {l : List D} {B : Nat} (i : Nat) (h : i < l.length) (al : ∀ x ∈ l, ∃ s : Nat, x = .int (s : Int) ∧ s ≤ B) : ∃ s : Nat, atI l (i : Int) = some (.int (s : Int)) ∧ s ≤ B := by
  obtain ⟨x, hx⟩ := get_lt h
  obtain ⟨s, rfl, hs⟩ := al x (List.mem_of_getElem? hx)
  exact ⟨s, atI_nat hx, hs⟩
theorem row_at {r : List Nat} (i : Nat) (h : i < r.length) : ∃ v : Nat, atI (nats r) (i : Int) = some (.int (v : Int)) := by
  obtain ⟨x, hx⟩ := get_lt h
  exact ⟨x, nats_at hx⟩
theorem order_ok {s : Nat} (hs : s ≤ 39) {keys : List Nat} (hk : keys.length = s) {ns : List Int} (hp : ns.Perm (((List.range s).map fun i => keys.getD i 0 * 64 + i).map fun (k : Nat) => (k : Int))) :
    ∃ o : List Nat, ns.map (fun z => D.int (z % 64)) = nats o ∧ o.length = s ∧ (∀ x ∈ o, x < s) ∧ o.Nodup := by
  let un : Int → Nat := fun z => (z % 64).toNat
  have hm : (ns.map un).Perm (List.range s) := by
    have := hp.map un
    rw [List.map_map, List.map_map] at this
    have e : (List.range s).map ((un ∘ fun (k : Nat) => (k : Int)) ∘ fun i => keys.getD i 0 * 64 + i) = List.range s := by
      conv => rhs; rw [← List.map_id (List.range s)]
      refine List.map_congr_left fun i hi => ?_
      have := List.mem_range.mp hi
      show (((keys.getD i 0 * 64 + i : Nat) : Int) % 64).toNat = i
      omega
    rwa [e] at this
  refine ⟨ns.map un, ?_, ?_, fun x hx => List.mem_range.mp (hm.mem_iff.mp hx), hm.nodup_iff.mpr List.nodup_range⟩
  · unfold nats
    rw [List.map_map]
    refine List.map_congr_left fun z _ => ?_
    show D.int (z % 64) = D.int (((z % 64).toNat : Nat) : Int)
    rw [Int.toNat_of_nonneg (by omega)]
  · rw [hm.length_eq, List.length_range]
theorem ranked_of {o : List Nat} {ps : List (Nat × Nat)} (nd : o.Nodup) (h : ∀ p ∈ ps, ∃ i j : Nat, i < j ∧ o[i]? = some p.1 ∧ o[j]? = some p.2) : Ranked ps := by
  refine ⟨fun x => o.idxOf x, fun p hp => ?_⟩
  obtain ⟨i, j, hij, h1, h2⟩ := h p hp
  obtain ⟨hi, e1⟩ := List.getElem?_eq_some_iff.mp h1
  obtain ⟨hj, e2⟩ := List.getElem?_eq_some_iff.mp h2
  show o.idxOf p.1 < o.idxOf p.2
  rw [← e1, ← e2, nd.idxOf_getElem, nd.idxOf_getElem]
  exact hij
theorem rd_law_parts (ds : List D) (h : DHp) (X : DX) (Q : DK) (hds : ds.length = 1) (c : ct__law_parts ds h X Q) : tb__law_parts (endsD h X Q) (startD N__law_parts.length ds) h := by
  obtain ⟨ns, rfl, hl, q⟩ := c
  simp only [tb__law_parts, startD, sSeq, sNil, sIf, sRet, sRetN, sSet, sAsg, sExpr, sNever, sFor, sNox, sBrk, sCont, sFldD, sAug, sAugS, dVar, dC, dOp, dI0, dII, dNeg, dInv, dAndV, dOrV, dNotV, dTst, dTru, dAnd, dOr, dNot, dIfE, dChn, dCall, dCallK, dMake, aNil, aCons, dTup, dLst, dLstH, dFldC, dCB, dBM, tgN, tgSub, iL, iT, iR1, iR2, DEnds.xx, dLc, dLcH, dYes, dSl, oNon, oSome, nI2, nTup, nLst, nLstH, mApp, wipeD, dIn, dIsN, dNotN, dAddH, dMulH, tru_bl, tru_int, add_int, add_tup, mul_int, len_tup, len_lst, len_fz, ne_int, eq_int, ne_bl, eq_bl, int_int, int_bl, ty_end, asL_lst, asL_fz, asS_tup, asS_lst, asS_fz, tgs_cons_eq, tgs_nil_eq, tg_tup_eq, tg_lst_eq, at_end, set_end, asS_end, asL_end, at_pre, set_pre, ty_pre, dTupRev, List.getElem?_cons_zero, List.getElem?_cons_succ, Option.some.injEq, exists_eq_left', exists_eq_left, exists_and_left, exists_and_right, and_assoc, D.int.injEq, D.bl.injEq, D.str.injEq, D.tup.injEq, D.lst.injEq, D.fz.injEq, D.ref.injEq, HB.lst.injEq, List.cons.injEq, and_true, true_and, List.set_cons_zero, List.set_cons_succ, List.map_cons, List.map_nil, List.length_cons, List.length_nil, Nat.reduceAdd, Nat.reduceSub, Nat.sub_self, Nat.zero_add, List.replicate_zero, List.replicate_succ, List.append_nil, List.cons_append, List.nil_append, decide_eq_true_eq, decide_eq_false_iff_not, Bool.not_eq_true', Bool.not_eq_false', Bool.true_eq_false, Bool.false_eq_true, false_implies, forall_const, true_implies, reduceCtorEq, and_false, false_and, Bool.not_true, Bool.not_false, if_true, if_false]
  refine ⟨ns, 0, 6, 1009, rfl, hl, by decide, by decide, by decide, fun r rl rb => ?_⟩
  obtain ⟨p0, h0⟩ := row_at (r := r) 0 (by omega)
  obtain ⟨p1, h1⟩ := row_at (r := r) 1 (by omega)
  obtain ⟨p2, h2⟩ := row_at (r := r) 2 (by omega)
  obtain ⟨p3, h3⟩ := row_at (r := r) 3 (by omega)
  obtain ⟨p4, h4⟩ := row_at (r := r) 4 (by omega)
  obtain ⟨p5, h5⟩ := row_at (r := r) 5 (by omega)
  have g0 : atI (nats r) 0 = some (.int (p0 : Int)) := h0
  have g1 : atI (nats r) 1 = some (.int (p1 : Int)) := h1
  have g2 : atI (nats r) 2 = some (.int (p2 : Int)) := h2
  have g3 : atI (nats r) 3 = some (.int (p3 : Int)) := h3
  have g4 : atI (nats r) 4 = some (.int (p4 : Int)) := h4
  have g5 : atI (nats r) 5 = some (.int (p5 : Int)) := h5
  have md : ∀ (x k : Nat), (x : Int) % (k : Int) = ((x % k : Nat) : Int) := mod_nat
  obtain ⟨v, hv, vb⟩ := pick (l := [.int 0, .int 1, .int 39, .int 12]) (B := 39) (p0 % 4) (Nat.mod_lt _ (by decide)) (by
    intro x hx
    simp at hx
    rcases hx with rfl | rfl | rfl | rfl
    · exact ⟨0, rfl, by decide⟩
    · exact ⟨1, rfl, by decide⟩
    · exact ⟨39, rfl, by decide⟩
    · exact ⟨12, rfl, by decide⟩)
  obtain ⟨s, hs, sb⟩ := pick (l := [.int ((p0 % 40 : Nat) : Int), .int ((2 + p0 % 6 : Nat) : Int), .int (v : Int)]) (B := 39) (p1 % 3) (Nat.mod_lt _ (by decide)) (by
    intro x hx
    simp only [List.mem_cons, List.not_mem_nil, or_false] at hx
    rcases hx with rfl | rfl | rfl
    · exact ⟨_, rfl, by omega⟩
    · exact ⟨_, rfl, by omega⟩
    · exact ⟨v, rfl, vb⟩)
  have hv' : atI [D.int 0, D.int 1, D.int 39, D.int 12] ((p0 : Int) % 4) = some (.int (v : Int)) := by rw [← hv]; congr 1
  have hs' : atI [D.int ((p0 : Int) % 40), D.int (2 + (p0 : Int) % 6), D.int (v : Int)] ((p1 : Int) % 3) = some (.int (s : Int)) := by rw [← hs]; congr 1
  simp only [sSeq, sNil, sIf, sRet, sRetN, sSet, sAsg, sExpr, sNever, sFor, sNox, sBrk, sCont, sFldD, sAug, sAugS, dVar, dC, dOp, dI0, dII, dNeg, dInv, dAndV, dOrV, dNotV, dTst, dTru, dAnd, dOr, dNot, dIfE, dChn, dCall, dCallK, dMake, aNil, aCons, dTup, dLst, dLstH, dFldC, dCB, dBM, tgN, tgSub, iL, iT, iR1, iR2, DEnds.xx, dLc, dLcH, dYes, dSl, oNon, oSome, nI2, nTup, nLst, nLstH, mApp, wipeD, dIn, dIsN, dNotN, dAddH, dMulH, tru_bl, tru_int, add_int, add_tup, mul_int, len_tup, len_lst, len_fz, ne_int, eq_int, ne_bl, eq_bl, int_int, int_bl, ty_end, asL_lst, asL_fz, asS_tup, asS_lst, asS_fz, tgs_cons_eq, tgs_nil_eq, tg_tup_eq, tg_lst_eq, at_end, set_end, asS_end, asL_end, at_pre, set_pre, ty_pre, dTupRev, List.getElem?_cons_zero, List.getElem?_cons_succ, Option.some.injEq, exists_eq_left', exists_eq_left, exists_and_left, exists_and_right, and_assoc, D.int.injEq, D.bl.injEq, D.str.injEq, D.tup.injEq, D.lst.injEq, D.fz.injEq, D.ref.injEq, HB.lst.injEq, List.cons.injEq, and_true, true_and, List.set_cons_zero, List.set_cons_succ, List.map_cons, List.map_nil, List.length_cons, List.length_nil, Nat.reduceAdd, Nat.reduceSub, Nat.sub_self, Nat.zero_add, List.replicate_zero, List.replicate_succ, List.append_nil, List.cons_append, List.nil_append, decide_eq_true_eq, decide_eq_false_iff_not, Bool.not_eq_true', Bool.not_eq_false', Bool.true_eq_false, Bool.false_eq_true, false_implies, forall_const, true_implies, reduceCtorEq, and_false, false_and, Bool.not_true, Bool.not_false, if_true, if_false, ix_lst g0, ix_lst g1, ix_lst hv', ix_lst hs']
  refine ⟨by decide, by decide, small (by decide), by decide, small (by decide), by decide, ?_⟩
  refine ⟨ns, 1, s, 1009, rfl, hl, by omega, by decide, by decide, fun keys kl kb => ⟨rgOk (by omega), ?_⟩⟩
  rw [Int.toNat_natCast]
  refine lc_map (fun d => .int ((keys.getD (iOf d).toNat 0 * 64 + (iOf d).toNat : Nat) : Int)) (fun _ => true) (rgD 0 s) (fun _ => trivial) (small (by rw [rg_len]; omega)) ?_ ?_
  · intro x hx acc R hla hA hB
    obtain ⟨k, hk, rfl⟩ := rg_mem hx
    have hA' := hA rfl
    rw [iOf_int, Int.toNat_natCast] at hA'
    obtain ⟨y, hy⟩ := get_lt (l := keys) (i := k) (by omega)
    have hy2 : keys.getD k 0 = y := by rw [List.getD_eq_getElem?_getD, hy]; rfl
    rw [hy2] at hA'
    simp only [sSeq, sNil, sIf, sRet, sRetN, sSet, sAsg, sExpr, sNever, sFor, sNox, sBrk, sCont, sFldD, sAug, sAugS, dVar, dC, dOp, dI0, dII, dNeg, dInv, dAndV, dOrV, dNotV, dTst, dTru, dAnd, dOr, dNot, dIfE, dChn, dCall, dCallK, dMake, aNil, aCons, dTup, dLst, dLstH, dFldC, dCB, dBM, tgN, tgSub, iL, iT, iR1, iR2, DEnds.xx, dLc, dLcH, dYes, dSl, oNon, oSome, nI2, nTup, nLst, nLstH, mApp, wipeD, dIn, dIsN, dNotN, dAddH, dMulH, tru_bl, tru_int, add_int, add_tup, mul_int, len_tup, len_lst, len_fz, ne_int, eq_int, ne_bl, eq_bl, int_int, int_bl, ty_end, asL_lst, asL_fz, asS_tup, asS_lst, asS_fz, tgs_cons_eq, tgs_nil_eq, tg_tup_eq, tg_lst_eq, at_end, set_end, asS_end, asL_end, at_pre, set_pre, ty_pre, dTupRev, List.getElem?_cons_zero, List.getElem?_cons_succ, Option.some.injEq, exists_eq_left', exists_eq_left, exists_and_left, exists_and_right, and_assoc, D.int.injEq, D.bl.injEq, D.str.injEq, D.tup.injEq, D.lst.injEq, D.fz.injEq, D.ref.injEq, HB.lst.injEq, List.cons.injEq, and_true, true_and, List.set_cons_zero, List.set_cons_succ, List.map_cons, List.map_nil, List.length_cons, List.length_nil, Nat.reduceAdd, Nat.reduceSub, Nat.sub_self, Nat.zero_add, List.replicate_zero, List.replicate_succ, List.append_nil, List.cons_append, List.nil_append, decide_eq_true_eq, decide_eq_false_iff_not, Bool.not_eq_true', Bool.not_eq_false', Bool.true_eq_false, Bool.false_eq_true, false_implies, forall_const, true_implies, reduceCtorEq, and_false, false_and, Bool.not_true, Bool.not_false, if_true, if_false, ix_lst (nats_at hy)]
    refine ⟨.inr ⟨by decide, by decide⟩, hla, ?_⟩
    have e : (y : Int) * 64 + (k : Int) = ((y * 64 + k : Nat) : Int) := by push_cast; rfl
    rw [e]
    exact hA'
  have e1 : lcF (fun d => D.int ((keys.getD (iOf d).toNat 0 * 64 + (iOf d).toNat : Nat) : Int)) (fun _ => true) (rgD 0 s) = (((List.range s).map fun i => keys.getD i 0 * 64 + i).map fun (k : Nat) => (k : Int)).map D.int := by
    rw [rg_nats]
    unfold lcF nats
    rw [List.filter_eq_self.mpr (fun _ _ => rfl), List.map_map, List.map_map, List.map_map]
    rfl
  rw [e1]
  refine ⟨_, rfl, Bds.ints, _, _, rfl, rfl, fun zs hp hsort => ?_⟩
  obtain ⟨o, eo, ol, ob, ond⟩ := order_ok sb kl hp
  simp only [sSeq, sNil, sIf, sRet, sRetN, sSet, sAsg, sExpr, sNever, sFor, sNox, sBrk, sCont, sFldD, sAug, sAugS, dVar, dC, dOp, dI0, dII, dNeg, dInv, dAndV, dOrV, dNotV, dTst, dTru, dAnd, dOr, dNot, dIfE, dChn, dCall, dCallK, dMake, aNil, aCons, dTup, dLst, dLstH, dFldC, dCB, dBM, tgN, tgSub, iL, iT, iR1, iR2, DEnds.xx, dLc, dLcH, dYes, dSl, oNon, oSome, nI2, nTup, nLst, nLstH, mApp, wipeD, dIn, dIsN, dNotN, dAddH, dMulH, tru_bl, tru_int, add_int, add_tup, mul_int, len_tup, len_lst, len_fz, ne_int, eq_int, ne_bl, eq_bl, int_int, int_bl, ty_end, asL_lst, asL_fz, asS_tup, asS_lst, asS_fz, tgs_cons_eq, tgs_nil_eq, tg_tup_eq, tg_lst_eq, at_end, set_end, asS_end, asL_end, at_pre, set_pre, ty_pre, dTupRev, List.getElem?_cons_zero, List.getElem?_cons_succ, Option.some.injEq, exists_eq_left', exists_eq_left, exists_and_left, exists_and_right, and_assoc, D.int.injEq, D.bl.injEq, D.str.injEq, D.tup.injEq, D.lst.injEq, D.fz.injEq, D.ref.injEq, HB.lst.injEq, List.cons.injEq, and_true, true_and, List.set_cons_zero, List.set_cons_succ, List.map_cons, List.map_nil, List.length_cons, List.length_nil, Nat.reduceAdd, Nat.reduceSub, Nat.sub_self, Nat.zero_add, List.replicate_zero, List.replicate_succ, List.append_nil, List.cons_append, List.nil_append, decide_eq_true_eq, decide_eq_false_iff_not, Bool.not_eq_true', Bool.not_eq_false', Bool.true_eq_false, Bool.false_eq_true, false_implies, forall_const, true_implies, reduceCtorEq, and_false, false_and, Bool.not_true, Bool.not_false, if_true, if_false]
  have zl : zs.length ≤ 39 := by
    have := hp.length_eq
    rw [List.length_map, List.length_map, List.length_range] at this
    omega
  refine lc_map (fun d => .int (iOf d % 64)) (fun _ => true) (zs.map D.int) (fun _ => rfl) (small (by rw [List.length_map]; omega)) ?_ ?_
  · intro x hx acc R hla hA hB
    obtain ⟨k, hk, rfl⟩ := List.mem_map.mp hx
    have hA' := hA rfl
    rw [iOf_int] at hA'
    simp only [sSeq, sNil, sIf, sRet, sRetN, sSet, sAsg, sExpr, sNever, sFor, sNox, sBrk, sCont, sFldD, sAug, sAugS, dVar, dC, dOp, dI0, dII, dNeg, dInv, dAndV, dOrV, dNotV, dTst, dTru, dAnd, dOr, dNot, dIfE, dChn, dCall, dCallK, dMake, aNil, aCons, dTup, dLst, dLstH, dFldC, dCB, dBM, tgN, tgSub, iL, iT, iR1, iR2, DEnds.xx, dLc, dLcH, dYes, dSl, oNon, oSome, nI2, nTup, nLst, nLstH, mApp, wipeD, dIn, dIsN, dNotN, dAddH, dMulH, tru_bl, tru_int, add_int, add_tup, mul_int, len_tup, len_lst, len_fz, ne_int, eq_int, ne_bl, eq_bl, int_int, int_bl, ty_end, asL_lst, asL_fz, asS_tup, asS_lst, asS_fz, tgs_cons_eq, tgs_nil_eq, tg_tup_eq, tg_lst_eq, at_end, set_end, asS_end, asL_end, at_pre, set_pre, ty_pre, dTupRev, List.getElem?_cons_zero, List.getElem?_cons_succ, Option.some.injEq, exists_eq_left', exists_eq_left, exists_and_left, exists_and_right, and_assoc, D.int.injEq, D.bl.injEq, D.str.injEq, D.tup.injEq, D.lst.injEq, D.fz.injEq, D.ref.injEq, HB.lst.injEq, List.cons.injEq, and_true, true_and, List.set_cons_zero, List.set_cons_succ, List.map_cons, List.map_nil, List.length_cons, List.length_nil, Nat.reduceAdd, Nat.reduceSub, Nat.sub_self, Nat.zero_add, List.replicate_zero, List.replicate_succ, List.append_nil, List.cons_append, List.nil_append, decide_eq_true_eq, decide_eq_false_iff_not, Bool.not_eq_true', Bool.not_eq_false', Bool.true_eq_false, Bool.false_eq_true, false_implies, forall_const, true_implies, reduceCtorEq, and_false, false_and, Bool.not_true, Bool.not_false, if_true, if_false]
    exact ⟨by decide, hla, hA'⟩
  have e2 : lcF (fun d => D.int (iOf d % 64)) (fun _ => true) (zs.map D.int) = nats o := by
    rw [← eo]
    unfold lcF
    rw [List.filter_eq_self.mpr (fun _ _ => rfl), List.map_map]
    rfl
  rw [e2]
  refine ⟨_, rfl, Bds_nats, ?_⟩
  obtain ⟨mc, hmc, mcb⟩ := pick (l := [.int ((p2 % 10 : Nat) : Int), .int ((p2 % 64 : Nat) : Int)]) (B := 63) (p3 % 2) (Nat.mod_lt _ (by decide)) (by
    intro x hx
    simp only [List.mem_cons, List.not_mem_nil, or_false] at hx
    rcases hx with rfl | rfl
    · exact ⟨_, rfl, by omega⟩
    · exact ⟨_, rfl, by omega⟩)
  have hmc' : atI [D.int ((p2 : Int) % 10), D.int ((p2 : Int) % 64)] ((p3 : Int) % 2) = some (.int (mc : Int)) := by rw [← hmc]; congr 1
  simp only [sSeq, sNil, sIf, sRet, sRetN, sSet, sAsg, sExpr, sNever, sFor, sNox, sBrk, sCont, sFldD, sAug, sAugS, dVar, dC, dOp, dI0, dII, dNeg, dInv, dAndV, dOrV, dNotV, dTst, dTru, dAnd, dOr, dNot, dIfE, dChn, dCall, dCallK, dMake, aNil, aCons, dTup, dLst, dLstH, dFldC, dCB, dBM, tgN, tgSub, iL, iT, iR1, iR2, DEnds.xx, dLc, dLcH, dYes, dSl, oNon, oSome, nI2, nTup, nLst, nLstH, mApp, wipeD, dIn, dIsN, dNotN, dAddH, dMulH, tru_bl, tru_int, add_int, add_tup, mul_int, len_tup, len_lst, len_fz, ne_int, eq_int, ne_bl, eq_bl, int_int, int_bl, ty_end, asL_lst, asL_fz, asS_tup, asS_lst, asS_fz, tgs_cons_eq, tgs_nil_eq, tg_tup_eq, tg_lst_eq, at_end, set_end, asS_end, asL_end, at_pre, set_pre, ty_pre, dTupRev, List.getElem?_cons_zero, List.getElem?_cons_succ, Option.some.injEq, exists_eq_left', exists_eq_left, exists_and_left, exists_and_right, and_assoc, D.int.injEq, D.bl.injEq, D.str.injEq, D.tup.injEq, D.lst.injEq, D.fz.injEq, D.ref.injEq, HB.lst.injEq, List.cons.injEq, and_true, true_and, List.set_cons_zero, List.set_cons_succ, List.map_cons, List.map_nil, List.length_cons, List.length_nil, Nat.reduceAdd, Nat.reduceSub, Nat.sub_self, Nat.zero_add, List.replicate_zero, List.replicate_succ, List.append_nil, List.cons_append, List.nil_append, decide_eq_true_eq, decide_eq_false_iff_not, Bool.not_eq_true', Bool.not_eq_false', Bool.true_eq_false, Bool.false_eq_true, false_implies, forall_const, true_implies, reduceCtorEq, and_false, false_and, Bool.not_true, Bool.not_false, if_true, if_false, ix_lst g2, ix_lst g3, ix_lst hmc']
  refine ⟨by decide, by decide, small (by decide), by decide, ?_⟩
  refine ⟨ns, 2, mc, 1600, rfl, hl, by omega, by decide, by decide, fun r2 r2l r2b => ?_⟩
  refine ⟨r2, s, o, rfl, by omega, ol, sb, ob, ond, fun cs cok cr => ?_⟩
  obtain ⟨mf, hmf, mfb⟩ := pick (l := [.int ((p4 % 6 : Nat) : Int), .int ((p4 % 64 : Nat) : Int), .int ((p4 % 20 : Nat) : Int)]) (B := 63) (p5 % 3) (Nat.mod_lt _ (by decide)) (by
    intro x hx
    simp only [List.mem_cons, List.not_mem_nil, or_false] at hx
    rcases hx with rfl | rfl | rfl
    · exact ⟨_, rfl, by omega⟩
    · exact ⟨_, rfl, by omega⟩
    · exact ⟨_, rfl, by omega⟩)
  have hmf' : atI [D.int ((p4 : Int) % 6), D.int ((p4 : Int) % 64), D.int ((p4 : Int) % 20)] ((p5 : Int) % 3) = some (.int (mf : Int)) := by rw [← hmf]; congr 1
  simp only [sSeq, sNil, sIf, sRet, sRetN, sSet, sAsg, sExpr, sNever, sFor, sNox, sBrk, sCont, sFldD, sAug, sAugS, dVar, dC, dOp, dI0, dII, dNeg, dInv, dAndV, dOrV, dNotV, dTst, dTru, dAnd, dOr, dNot, dIfE, dChn, dCall, dCallK, dMake, aNil, aCons, dTup, dLst, dLstH, dFldC, dCB, dBM, tgN, tgSub, iL, iT, iR1, iR2, DEnds.xx, dLc, dLcH, dYes, dSl, oNon, oSome, nI2, nTup, nLst, nLstH, mApp, wipeD, dIn, dIsN, dNotN, dAddH, dMulH, tru_bl, tru_int, add_int, add_tup, mul_int, len_tup, len_lst, len_fz, ne_int, eq_int, ne_bl, eq_bl, int_int, int_bl, ty_end, asL_lst, asL_fz, asS_tup, asS_lst, asS_fz, tgs_cons_eq, tgs_nil_eq, tg_tup_eq, tg_lst_eq, at_end, set_end, asS_end, asL_end, at_pre, set_pre, ty_pre, dTupRev, List.getElem?_cons_zero, List.getElem?_cons_succ, Option.some.injEq, exists_eq_left', exists_eq_left, exists_and_left, exists_and_right, and_assoc, D.int.injEq, D.bl.injEq, D.str.injEq, D.tup.injEq, D.lst.injEq, D.fz.injEq, D.ref.injEq, HB.lst.injEq, List.cons.injEq, and_true, true_and, List.set_cons_zero, List.set_cons_succ, List.map_cons, List.map_nil, List.length_cons, List.length_nil, Nat.reduceAdd, Nat.reduceSub, Nat.sub_self, Nat.zero_add, List.replicate_zero, List.replicate_succ, List.append_nil, List.cons_append, List.nil_append, decide_eq_true_eq, decide_eq_false_iff_not, Bool.not_eq_true', Bool.not_eq_false', Bool.true_eq_false, Bool.false_eq_true, false_implies, forall_const, true_implies, reduceCtorEq, and_false, false_and, Bool.not_true, Bool.not_false, if_true, if_false, ix_lst g4, ix_lst g5, ix_lst hmf']
  refine ⟨by decide, by decide, by decide, small (by decide), by decide, ?_⟩
  refine ⟨ns, 3, mf, 1600, rfl, hl, by omega, by decide, by decide, fun r3 r3l r3b => ⟨rgOk (by omega), ?_⟩⟩
  refine lc_map (fun d => d) (fun _ => true) (rgD 0 s) (fun _ => trivial) (small (by rw [rg_len]; omega)) ?_ ?_
  · intro x hx acc R hl hA hB
    simp only [sSeq, sNil, sIf, sRet, sRetN, sSet, sAsg, sExpr, sNever, sFor, sNox, sBrk, sCont, sFldD, sAug, sAugS, dVar, dC, dOp, dI0, dII, dNeg, dInv, dAndV, dOrV, dNotV, dTst, dTru, dAnd, dOr, dNot, dIfE, dChn, dCall, dCallK, dMake, aNil, aCons, dTup, dLst, dLstH, dFldC, dCB, dBM, tgN, tgSub, iL, iT, iR1, iR2, DEnds.xx, dLc, dLcH, dYes, dSl, oNon, oSome, nI2, nTup, nLst, nLstH, mApp, wipeD, dIn, dIsN, dNotN, dAddH, dMulH, tru_bl, tru_int, add_int, add_tup, mul_int, len_tup, len_lst, len_fz, ne_int, eq_int, ne_bl, eq_bl, int_int, int_bl, ty_end, asL_lst, asL_fz, asS_tup, asS_lst, asS_fz, tgs_cons_eq, tgs_nil_eq, tg_tup_eq, tg_lst_eq, at_end, set_end, asS_end, asL_end, at_pre, set_pre, ty_pre, dTupRev, List.getElem?_cons_zero, List.getElem?_cons_succ, Option.some.injEq, exists_eq_left', exists_eq_left, exists_and_left, exists_and_right, and_assoc, D.int.injEq, D.bl.injEq, D.str.injEq, D.tup.injEq, D.lst.injEq, D.fz.injEq, D.ref.injEq, HB.lst.injEq, List.cons.injEq, and_true, true_and, List.set_cons_zero, List.set_cons_succ, List.map_cons, List.map_nil, List.length_cons, List.length_nil, Nat.reduceAdd, Nat.reduceSub, Nat.sub_self, Nat.zero_add, List.replicate_zero, List.replicate_succ, List.append_nil, List.cons_append, List.nil_append, decide_eq_true_eq, decide_eq_false_iff_not, Bool.not_eq_true', Bool.not_eq_false', Bool.true_eq_false, Bool.false_eq_true, false_implies, forall_const, true_implies, reduceCtorEq, and_false, false_and, Bool.not_true, Bool.not_false, if_true, if_false]
    exact ⟨hl, hA rfl⟩
  have e3 : lcF (fun d => d) (fun _ => true) (rgD 0 s) = nats (List.range s) := by
    rw [rg_nats]
    unfold lcF
    rw [List.filter_eq_self.mpr (fun _ _ => rfl), List.map_id']
  rw [e3]
  refine ⟨_, rfl, Bds_nats, ?_⟩
  refine ⟨r3, s, List.range s, rfl, by omega, List.length_range, sb, fun x hx => List.mem_range.mp hx, List.nodup_range, fun fs fok fr => ?_⟩
  simp only [sSeq, sNil, sIf, sRet, sRetN, sSet, sAsg, sExpr, sNever, sFor, sNox, sBrk, sCont, sFldD, sAug, sAugS, dVar, dC, dOp, dI0, dII, dNeg, dInv, dAndV, dOrV, dNotV, dTst, dTru, dAnd, dOr, dNot, dIfE, dChn, dCall, dCallK, dMake, aNil, aCons, dTup, dLst, dLstH, dFldC, dCB, dBM, tgN, tgSub, iL, iT, iR1, iR2, DEnds.xx, dLc, dLcH, dYes, dSl, oNon, oSome, nI2, nTup, nLst, nLstH, mApp, wipeD, dIn, dIsN, dNotN, dAddH, dMulH, tru_bl, tru_int, add_int, add_tup, mul_int, len_tup, len_lst, len_fz, ne_int, eq_int, ne_bl, eq_bl, int_int, int_bl, ty_end, asL_lst, asL_fz, asS_tup, asS_lst, asS_fz, tgs_cons_eq, tgs_nil_eq, tg_tup_eq, tg_lst_eq, at_end, set_end, asS_end, asL_end, at_pre, set_pre, ty_pre, dTupRev, List.getElem?_cons_zero, List.getElem?_cons_succ, Option.some.injEq, exists_eq_left', exists_eq_left, exists_and_left, exists_and_right, and_assoc, D.int.injEq, D.bl.injEq, D.str.injEq, D.tup.injEq, D.lst.injEq, D.fz.injEq, D.ref.injEq, HB.lst.injEq, List.cons.injEq, and_true, true_and, List.set_cons_zero, List.set_cons_succ, List.map_cons, List.map_nil, List.length_cons, List.length_nil, Nat.reduceAdd, Nat.reduceSub, Nat.sub_self, Nat.zero_add, List.replicate_zero, List.replicate_succ, List.append_nil, List.cons_append, List.nil_append, decide_eq_true_eq, decide_eq_false_iff_not, Bool.not_eq_true', Bool.not_eq_false', Bool.true_eq_false, Bool.false_eq_true, false_implies, forall_const, true_implies, reduceCtorEq, and_false, false_and, Bool.not_true, Bool.not_false, if_true, if_false]
  refine ⟨small (by decide), rt_keep (q s cs fs sb cok (ranked_of ond cr) fok fun p hp => ?_)⟩
  obtain ⟨i, j, hij, h1, h2⟩ := fr p hp
  obtain ⟨hi, e1⟩ := List.getElem?_eq_some_iff.mp h1
  obtain ⟨hj, e2⟩ := List.getElem?_eq_some_iff.mp h2
  rw [List.getElem_range] at e1 e2
  omega
end L2.MW.K47

namespace L2.MW.K47
open PySem PySem.Spec PyProof.Rows L2 L2.MW
theorem cut_nats (r : List Nat) (lo hi : Option Int) : ∃ r' : List Nat, cutD (nats r) lo hi = nats r' ∧ r'.length ≤ r.length := by
  unfold cutD nats
  rw [← List.map_drop, ← List.map_take]
  exact ⟨_, rfl, by rw [List.length_take, List.length_drop]; omega⟩
theorem deq_prs (ps : List (Nat × Nat)) : deq (.tup (prs ps)) (.tup (prs ps)) = true := by
  show PyData.eqv (.tuple (toPs (prs ps))) (.tuple (toPs (prs ps))) = true
  have : PyData.eqvAll (toPs (prs ps)) (toPs (prs ps)) = true := by
    induction ps with
    | nil => rfl
    | cons p r ih =>
      show PyData.eqvAll (toP (prN p) :: toPs (prs r)) (toP (prN p) :: toPs (prs r)) = true
      have e := deq_pr p p
      simp only [decide_true] at e
      have e' : PyData.eqv (toP (prN p)) (toP (prN p)) = true := e
      simp [PyData.eqvAll, e', ih]
  simp [PyData.eqv, this]
theorem ok_prs (ps : List (Nat × Nat)) : OkD 60 (.tup (prs ps)) := fun x hx => by
  obtain ⟨p, _, rfl⟩ := List.mem_map.mp hx
  exact OkD.ints (n := 58) (l := [(p.1 : Int), (p.2 : Int)])
theorem rd_law_asked (ds : List D) (h : DHp) (X : DX) (Q : DK) (hds : ds.length = 1) (c : ct__law_asked ds h X Q) : tb__law_asked (endsD h X Q) (startD N__law_asked.length ds) h := by
  obtain ⟨ns, rfl, hl, q⟩ := c
  simp only [tb__law_asked, startD, sSeq, sNil, sIf, sRet, sRetN, sSet, sAsg, sExpr, sNever, sFor, sNox, sBrk, sCont, sFldD, sAug, sAugS, dVar, dC, dOp, dI0, dII, dNeg, dInv, dAndV, dOrV, dNotV, dTst, dTru, dAnd, dOr, dNot, dIfE, dChn, dCall, dCallK, dMake, aNil, aCons, dTup, dLst, dLstH, dFldC, dCB, dBM, tgN, tgSub, iL, iT, iR1, iR2, DEnds.xx, dLc, dLcH, dYes, dSl, oNon, oSome, nI2, nTup, nLst, nLstH, mApp, wipeD, dIn, dIsN, dNotN, dAddH, dMulH, tru_bl, tru_int, add_int, add_tup, mul_int, len_tup, len_lst, len_fz, ne_int, eq_int, ne_bl, eq_bl, int_int, int_bl, ty_end, asL_lst, asL_fz, asS_tup, asS_lst, asS_fz, tgs_cons_eq, tgs_nil_eq, tg_tup_eq, tg_lst_eq, at_end, set_end, asS_end, asL_end, at_pre, set_pre, ty_pre, dTupRev, List.getElem?_cons_zero, List.getElem?_cons_succ, Option.some.injEq, exists_eq_left', exists_eq_left, exists_and_left, exists_and_right, and_assoc, D.int.injEq, D.bl.injEq, D.str.injEq, D.tup.injEq, D.lst.injEq, D.fz.injEq, D.ref.injEq, HB.lst.injEq, List.cons.injEq, and_true, true_and, List.set_cons_zero, List.set_cons_succ, List.map_cons, List.map_nil, List.length_cons, List.length_nil, Nat.reduceAdd, Nat.reduceSub, Nat.sub_self, Nat.zero_add, List.replicate_zero, List.replicate_succ, List.append_nil, List.cons_append, List.nil_append, decide_eq_true_eq, decide_eq_false_iff_not, Bool.not_eq_true', Bool.not_eq_false', Bool.true_eq_false, Bool.false_eq_true, false_implies, forall_const, true_implies, reduceCtorEq, and_false, false_and, Bool.not_true, Bool.not_false, if_true, if_false]
  refine ⟨ns, rfl, hl, fun n cs fs hn cok rk fok fr => ?_⟩
  simp only [sSeq, sNil, sIf, sRet, sRetN, sSet, sAsg, sExpr, sNever, sFor, sNox, sBrk, sCont, sFldD, sAug, sAugS, dVar, dC, dOp, dI0, dII, dNeg, dInv, dAndV, dOrV, dNotV, dTst, dTru, dAnd, dOr, dNot, dIfE, dChn, dCall, dCallK, dMake, aNil, aCons, dTup, dLst, dLstH, dFldC, dCB, dBM, tgN, tgSub, iL, iT, iR1, iR2, DEnds.xx, dLc, dLcH, dYes, dSl, oNon, oSome, nI2, nTup, nLst, nLstH, mApp, wipeD, dIn, dIsN, dNotN, dAddH, dMulH, tru_bl, tru_int, add_int, add_tup, mul_int, len_tup, len_lst, len_fz, ne_int, eq_int, ne_bl, eq_bl, int_int, int_bl, ty_end, asL_lst, asL_fz, asS_tup, asS_lst, asS_fz, tgs_cons_eq, tgs_nil_eq, tg_tup_eq, tg_lst_eq, at_end, set_end, asS_end, asL_end, at_pre, set_pre, ty_pre, dTupRev, List.getElem?_cons_zero, List.getElem?_cons_succ, Option.some.injEq, exists_eq_left', exists_eq_left, exists_and_left, exists_and_right, and_assoc, D.int.injEq, D.bl.injEq, D.str.injEq, D.tup.injEq, D.lst.injEq, D.fz.injEq, D.ref.injEq, HB.lst.injEq, List.cons.injEq, and_true, true_and, List.set_cons_zero, List.set_cons_succ, List.map_cons, List.map_nil, List.length_cons, List.length_nil, Nat.reduceAdd, Nat.reduceSub, Nat.sub_self, Nat.zero_add, List.replicate_zero, List.replicate_succ, List.append_nil, List.cons_append, List.nil_append, decide_eq_true_eq, decide_eq_false_iff_not, Bool.not_eq_true', Bool.not_eq_false', Bool.true_eq_false, Bool.false_eq_true, false_implies, forall_const, true_implies, reduceCtorEq, and_false, false_and, Bool.not_true, Bool.not_false, if_true, if_false]
  refine ⟨ns, 4, 14, 1009, rfl, hl, by decide, by decide, by decide, fun r rl rb => ?_⟩
  have f1 : ∀ {Q : DK} {h : DHp}, nFld fc_many "many" (.obj "Events" (evD n cs fs)) h Q ↔ Q (.int n) h := fld_eq (by decide) rfl
  have f2 : ∀ {Q : DK} {h : DHp}, nFld fc_causes "causes" (.obj "Events" (evD n cs fs)) h Q ↔ Q (.tup (prs cs)) h := fld_eq (by decide) rfl
  have f3 : ∀ {Q : DK} {h : DHp}, nFld fc_conflicts "conflicts" (.obj "Events" (evD n cs fs)) h Q ↔ Q (.tup (prs fs)) h := fld_eq (by decide) rfl
  obtain ⟨a, ha⟩ := get_lt (l := r) (i := 1) (by omega)
  have g1 : atI (nats r) 1 = some (.int (a : Int)) := nats_at (e := 1) ha
  simp only [sSeq, sNil, sIf, sRet, sRetN, sSet, sAsg, sExpr, sNever, sFor, sNox, sBrk, sCont, sFldD, sAug, sAugS, dVar, dC, dOp, dI0, dII, dNeg, dInv, dAndV, dOrV, dNotV, dTst, dTru, dAnd, dOr, dNot, dIfE, dChn, dCall, dCallK, dMake, aNil, aCons, dTup, dLst, dLstH, dFldC, dCB, dBM, tgN, tgSub, iL, iT, iR1, iR2, DEnds.xx, dLc, dLcH, dYes, dSl, oNon, oSome, nI2, nTup, nLst, nLstH, mApp, wipeD, dIn, dIsN, dNotN, dAddH, dMulH, tru_bl, tru_int, add_int, add_tup, mul_int, len_tup, len_lst, len_fz, ne_int, eq_int, ne_bl, eq_bl, int_int, int_bl, ty_end, asL_lst, asL_fz, asS_tup, asS_lst, asS_fz, tgs_cons_eq, tgs_nil_eq, tg_tup_eq, tg_lst_eq, at_end, set_end, asS_end, asL_end, at_pre, set_pre, ty_pre, dTupRev, List.getElem?_cons_zero, List.getElem?_cons_succ, Option.some.injEq, exists_eq_left', exists_eq_left, exists_and_left, exists_and_right, and_assoc, D.int.injEq, D.bl.injEq, D.str.injEq, D.tup.injEq, D.lst.injEq, D.fz.injEq, D.ref.injEq, HB.lst.injEq, List.cons.injEq, and_true, true_and, List.set_cons_zero, List.set_cons_succ, List.map_cons, List.map_nil, List.length_cons, List.length_nil, Nat.reduceAdd, Nat.reduceSub, Nat.sub_self, Nat.zero_add, List.replicate_zero, List.replicate_succ, List.append_nil, List.cons_append, List.nil_append, decide_eq_true_eq, decide_eq_false_iff_not, Bool.not_eq_true', Bool.not_eq_false', Bool.true_eq_false, Bool.false_eq_true, false_implies, forall_const, true_implies, reduceCtorEq, and_false, false_and, Bool.not_true, Bool.not_false, if_true, if_false, ix_lst g1]
  obtain ⟨r', er, rl'⟩ := cut_nats r (some 2) (some (2 + (a : Int) % 13))
  rw [er]
  refine ⟨by decide, n, cs, fs, r', rfl, hn, cok, fok, fun m => ?_⟩
  simp only [sSeq, sNil, sIf, sRet, sRetN, sSet, sAsg, sExpr, sNever, sFor, sNox, sBrk, sCont, sFldD, sAug, sAugS, dVar, dC, dOp, dI0, dII, dNeg, dInv, dAndV, dOrV, dNotV, dTst, dTru, dAnd, dOr, dNot, dIfE, dChn, dCall, dCallK, dMake, aNil, aCons, dTup, dLst, dLstH, dFldC, dCB, dBM, tgN, tgSub, iL, iT, iR1, iR2, DEnds.xx, dLc, dLcH, dYes, dSl, oNon, oSome, nI2, nTup, nLst, nLstH, mApp, wipeD, dIn, dIsN, dNotN, dAddH, dMulH, tru_bl, tru_int, add_int, add_tup, mul_int, len_tup, len_lst, len_fz, ne_int, eq_int, ne_bl, eq_bl, int_int, int_bl, ty_end, asL_lst, asL_fz, asS_tup, asS_lst, asS_fz, tgs_cons_eq, tgs_nil_eq, tg_tup_eq, tg_lst_eq, at_end, set_end, asS_end, asL_end, at_pre, set_pre, ty_pre, dTupRev, List.getElem?_cons_zero, List.getElem?_cons_succ, Option.some.injEq, exists_eq_left', exists_eq_left, exists_and_left, exists_and_right, and_assoc, D.int.injEq, D.bl.injEq, D.str.injEq, D.tup.injEq, D.lst.injEq, D.fz.injEq, D.ref.injEq, HB.lst.injEq, List.cons.injEq, and_true, true_and, List.set_cons_zero, List.set_cons_succ, List.map_cons, List.map_nil, List.length_cons, List.length_nil, Nat.reduceAdd, Nat.reduceSub, Nat.sub_self, Nat.zero_add, List.replicate_zero, List.replicate_succ, List.append_nil, List.cons_append, List.nil_append, decide_eq_true_eq, decide_eq_false_iff_not, Bool.not_eq_true', Bool.not_eq_false', Bool.true_eq_false, Bool.false_eq_true, false_implies, forall_const, true_implies, reduceCtorEq, and_false, false_and, Bool.not_true, Bool.not_false, if_true, if_false]
  have bp : ∀ (ps : List (Nat × Nat)) (k : Nat), Bds k (prs ps) := fun ps k => Bds_all fun x hx => by
    obtain ⟨p, _, rfl⟩ := List.mem_map.mp hx
    exact ⟨trivial, trivial, trivial⟩
  refine ⟨h.length, n, cs, fs, rfl, at_end, hn, cok, rk, fok, fr, rfl, evD n cs fs, [], by rw [set_end], ⟨trivial, bp cs _, bp fs _, trivial⟩, ?_⟩
  refine ⟨n, fs, m, r, rfl, hn, fok, by omega, fun vs hvs => ?_⟩
  refine ⟨rgOk (n := 2) (by decide), ?_⟩
  have e2 : (2 : Int).toNat = 2 := rfl
  rw [e2]
  let Fr : DSt → Prop := fun σ => ∃ o8 o9 o10, σ = [some (.fz (ns.map D.int)), some (.int n), some (.lst (prs cs)), some (.lst (prs fs)), some (.lst (nats r)), some (.int m), some (.obj "Events" (evD n cs fs)), some (.lst vs), o8, o9, o10]
  refine forW_inv (rgD 0 2) (fun i σ h' => h' = h ∧ Fr σ) ⟨rfl, none, none, none, rfl⟩ (fun _ _ _ _ _ => trivial) ?_ ?_
  · rintro i x σ h' N hx ⟨rfl, o8, o9, o10, rfl⟩ hN
    obtain ⟨rfl, hi⟩ := rg_get hx
    simp only [sSeq, sNil, sIf, sRet, sRetN, sSet, sAsg, sExpr, sNever, sFor, sNox, sBrk, sCont, sFldD, sAug, sAugS, dVar, dC, dOp, dI0, dII, dNeg, dInv, dAndV, dOrV, dNotV, dTst, dTru, dAnd, dOr, dNot, dIfE, dChn, dCall, dCallK, dMake, aNil, aCons, dTup, dLst, dLstH, dFldC, dCB, dBM, tgN, tgSub, iL, iT, iR1, iR2, DEnds.xx, dLc, dLcH, dYes, dSl, oNon, oSome, nI2, nTup, nLst, nLstH, mApp, wipeD, dIn, dIsN, dNotN, dAddH, dMulH, tru_bl, tru_int, add_int, add_tup, mul_int, len_tup, len_lst, len_fz, ne_int, eq_int, ne_bl, eq_bl, int_int, int_bl, ty_end, asL_lst, asL_fz, asS_tup, asS_lst, asS_fz, tgs_cons_eq, tgs_nil_eq, tg_tup_eq, tg_lst_eq, at_end, set_end, asS_end, asL_end, at_pre, set_pre, ty_pre, dTupRev, List.getElem?_cons_zero, List.getElem?_cons_succ, Option.some.injEq, exists_eq_left', exists_eq_left, exists_and_left, exists_and_right, and_assoc, D.int.injEq, D.bl.injEq, D.str.injEq, D.tup.injEq, D.lst.injEq, D.fz.injEq, D.ref.injEq, HB.lst.injEq, List.cons.injEq, and_true, true_and, List.set_cons_zero, List.set_cons_succ, List.map_cons, List.map_nil, List.length_cons, List.length_nil, Nat.reduceAdd, Nat.reduceSub, Nat.sub_self, Nat.zero_add, List.replicate_zero, List.replicate_succ, List.append_nil, List.cons_append, List.nil_append, decide_eq_true_eq, decide_eq_false_iff_not, Bool.not_eq_true', Bool.not_eq_false', Bool.true_eq_false, Bool.false_eq_true, false_implies, forall_const, true_implies, reduceCtorEq, and_false, false_and, Bool.not_true, Bool.not_false, if_true, if_false]
    refine forW_inv vs (fun j σ h'' => h'' = h' ∧ ∃ o9 o10, σ = [some (.fz (ns.map D.int)), some (.int n), some (.lst (prs cs)), some (.lst (prs fs)), some (.lst (nats r)), some (.int m), some (.obj "Events" (evD n cs fs)), some (.lst vs), some (.int (i : Int)), o9, o10]) ⟨rfl, _, _, rfl⟩ (fun _ _ _ _ _ => rfl) ?_ ?_
    · rintro j x σ h' N hx ⟨rfl, o9, o10, rfl⟩ hN
      obtain ⟨pv, lv, _⟩ := hvs x (List.mem_of_getElem? hx)
      have ibl : ∀ {b : Bool} {h : DHp} {Q : DK}, nIsi kcs [.bl b, .ty "bool"] h Q ↔ Q (.bl true) h := fun {b h Q} => isi_b rfl
      have cont := hN [some (.fz (ns.map D.int)), some (.int n), some (.lst (prs cs)), some (.lst (prs fs)), some (.lst (nats r)), some (.int m), some (.obj "Events" (evD n cs fs)), some (.lst vs), some (.int (i : Int)), some x, some (.bl (okB n cs fs x))] h' ⟨rfl, _, _, rfl⟩
      simp only [sSeq, sNil, sIf, sRet, sRetN, sSet, sAsg, sExpr, sNever, sFor, sNox, sBrk, sCont, sFldD, sAug, sAugS, dVar, dC, dOp, dI0, dII, dNeg, dInv, dAndV, dOrV, dNotV, dTst, dTru, dAnd, dOr, dNot, dIfE, dChn, dCall, dCallK, dMake, aNil, aCons, dTup, dLst, dLstH, dFldC, dCB, dBM, tgN, tgSub, iL, iT, iR1, iR2, DEnds.xx, dLc, dLcH, dYes, dSl, oNon, oSome, nI2, nTup, nLst, nLstH, mApp, wipeD, dIn, dIsN, dNotN, dAddH, dMulH, tru_bl, tru_int, add_int, add_tup, mul_int, len_tup, len_lst, len_fz, ne_int, eq_int, ne_bl, eq_bl, int_int, int_bl, ty_end, asL_lst, asL_fz, asS_tup, asS_lst, asS_fz, tgs_cons_eq, tgs_nil_eq, tg_tup_eq, tg_lst_eq, at_end, set_end, asS_end, asL_end, at_pre, set_pre, ty_pre, dTupRev, List.getElem?_cons_zero, List.getElem?_cons_succ, Option.some.injEq, exists_eq_left', exists_eq_left, exists_and_left, exists_and_right, and_assoc, D.int.injEq, D.bl.injEq, D.str.injEq, D.tup.injEq, D.lst.injEq, D.fz.injEq, D.ref.injEq, HB.lst.injEq, List.cons.injEq, and_true, true_and, List.set_cons_zero, List.set_cons_succ, List.map_cons, List.map_nil, List.length_cons, List.length_nil, Nat.reduceAdd, Nat.reduceSub, Nat.sub_self, Nat.zero_add, List.replicate_zero, List.replicate_succ, List.append_nil, List.cons_append, List.nil_append, decide_eq_true_eq, decide_eq_false_iff_not, Bool.not_eq_true', Bool.not_eq_false', Bool.true_eq_false, Bool.false_eq_true, false_implies, forall_const, true_implies, reduceCtorEq, and_false, false_and, Bool.not_true, Bool.not_false, if_true, if_false, perm, List.filterMap_cons, List.filterMap_nil]
      refine ⟨fun _ => ⟨n, cs, fs, x, rfl, hn, cok, fok, pv, ?_⟩, fun _ => ⟨n, cs, fs, x, rfl, hn, cok, fok, pv, ?_⟩⟩
      · simp only [sSeq, sNil, sIf, sRet, sRetN, sSet, sAsg, sExpr, sNever, sFor, sNox, sBrk, sCont, sFldD, sAug, sAugS, dVar, dC, dOp, dI0, dII, dNeg, dInv, dAndV, dOrV, dNotV, dTst, dTru, dAnd, dOr, dNot, dIfE, dChn, dCall, dCallK, dMake, aNil, aCons, dTup, dLst, dLstH, dFldC, dCB, dBM, tgN, tgSub, iL, iT, iR1, iR2, DEnds.xx, dLc, dLcH, dYes, dSl, oNon, oSome, nI2, nTup, nLst, nLstH, mApp, wipeD, dIn, dIsN, dNotN, dAddH, dMulH, tru_bl, tru_int, add_int, add_tup, mul_int, len_tup, len_lst, len_fz, ne_int, eq_int, ne_bl, eq_bl, int_int, int_bl, ty_end, asL_lst, asL_fz, asS_tup, asS_lst, asS_fz, tgs_cons_eq, tgs_nil_eq, tg_tup_eq, tg_lst_eq, at_end, set_end, asS_end, asL_end, at_pre, set_pre, ty_pre, dTupRev, List.getElem?_cons_zero, List.getElem?_cons_succ, Option.some.injEq, exists_eq_left', exists_eq_left, exists_and_left, exists_and_right, and_assoc, D.int.injEq, D.bl.injEq, D.str.injEq, D.tup.injEq, D.lst.injEq, D.fz.injEq, D.ref.injEq, HB.lst.injEq, List.cons.injEq, and_true, true_and, List.set_cons_zero, List.set_cons_succ, List.map_cons, List.map_nil, List.length_cons, List.length_nil, Nat.reduceAdd, Nat.reduceSub, Nat.sub_self, Nat.zero_add, List.replicate_zero, List.replicate_succ, List.append_nil, List.cons_append, List.nil_append, decide_eq_true_eq, decide_eq_false_iff_not, Bool.not_eq_true', Bool.not_eq_false', Bool.true_eq_false, Bool.false_eq_true, false_implies, forall_const, true_implies, reduceCtorEq, and_false, false_and, Bool.not_true, Bool.not_false, if_true, if_false, ibl]
        refine ⟨n, cs, fs, x, rfl, hn, cok, fok, pv, lv, ?_⟩
        refine ne_bl.mpr ?_
        refine ⟨_, rfl, fun z => ?_, fun _ => cont⟩
        simp at z
      · simp only [sSeq, sNil, sIf, sRet, sRetN, sSet, sAsg, sExpr, sNever, sFor, sNox, sBrk, sCont, sFldD, sAug, sAugS, dVar, dC, dOp, dI0, dII, dNeg, dInv, dAndV, dOrV, dNotV, dTst, dTru, dAnd, dOr, dNot, dIfE, dChn, dCall, dCallK, dMake, aNil, aCons, dTup, dLst, dLstH, dFldC, dCB, dBM, tgN, tgSub, iL, iT, iR1, iR2, DEnds.xx, dLc, dLcH, dYes, dSl, oNon, oSome, nI2, nTup, nLst, nLstH, mApp, wipeD, dIn, dIsN, dNotN, dAddH, dMulH, tru_bl, tru_int, add_int, add_tup, mul_int, len_tup, len_lst, len_fz, ne_int, eq_int, ne_bl, eq_bl, int_int, int_bl, ty_end, asL_lst, asL_fz, asS_tup, asS_lst, asS_fz, tgs_cons_eq, tgs_nil_eq, tg_tup_eq, tg_lst_eq, at_end, set_end, asS_end, asL_end, at_pre, set_pre, ty_pre, dTupRev, List.getElem?_cons_zero, List.getElem?_cons_succ, Option.some.injEq, exists_eq_left', exists_eq_left, exists_and_left, exists_and_right, and_assoc, D.int.injEq, D.bl.injEq, D.str.injEq, D.tup.injEq, D.lst.injEq, D.fz.injEq, D.ref.injEq, HB.lst.injEq, List.cons.injEq, and_true, true_and, List.set_cons_zero, List.set_cons_succ, List.map_cons, List.map_nil, List.length_cons, List.length_nil, Nat.reduceAdd, Nat.reduceSub, Nat.sub_self, Nat.zero_add, List.replicate_zero, List.replicate_succ, List.append_nil, List.cons_append, List.nil_append, decide_eq_true_eq, decide_eq_false_iff_not, Bool.not_eq_true', Bool.not_eq_false', Bool.true_eq_false, Bool.false_eq_true, false_implies, forall_const, true_implies, reduceCtorEq, and_false, false_and, Bool.not_true, Bool.not_false, if_true, if_false, ibl]
        refine ⟨n, cs, fs, x, rfl, hn, cok, fok, pv, lv, ?_⟩
        refine ne_bl.mpr ?_
        refine ⟨_, rfl, fun z => ?_, fun _ => cont⟩
        simp at z
    · rintro σ h' ⟨rfl, o9, o10, rfl⟩
      exact hN _ _ ⟨rfl, _, _, _, rfl⟩
  · rintro σ h' ⟨rfl, o8, o9, o10, rfl⟩
    have itp : ∀ {l : List D} {h : DHp} {Q : DK}, nIsi kcs [.tup l, .ty "tuple"] h Q ↔ Q (.bl true) h := fun {l h Q} => isi_t rfl
    simp only [sSeq, sNil, sIf, sRet, sRetN, sSet, sAsg, sExpr, sNever, sFor, sNox, sBrk, sCont, sFldD, sAug, sAugS, dVar, dC, dOp, dI0, dII, dNeg, dInv, dAndV, dOrV, dNotV, dTst, dTru, dAnd, dOr, dNot, dIfE, dChn, dCall, dCallK, dMake, aNil, aCons, dTup, dLst, dLstH, dFldC, dCB, dBM, tgN, tgSub, iL, iT, iR1, iR2, DEnds.xx, dLc, dLcH, dYes, dSl, oNon, oSome, nI2, nTup, nLst, nLstH, mApp, wipeD, dIn, dIsN, dNotN, dAddH, dMulH, tru_bl, tru_int, add_int, add_tup, mul_int, len_tup, len_lst, len_fz, ne_int, eq_int, ne_bl, eq_bl, int_int, int_bl, ty_end, asL_lst, asL_fz, asS_tup, asS_lst, asS_fz, tgs_cons_eq, tgs_nil_eq, tg_tup_eq, tg_lst_eq, at_end, set_end, asS_end, asL_end, at_pre, set_pre, ty_pre, dTupRev, List.getElem?_cons_zero, List.getElem?_cons_succ, Option.some.injEq, exists_eq_left', exists_eq_left, exists_and_left, exists_and_right, and_assoc, D.int.injEq, D.bl.injEq, D.str.injEq, D.tup.injEq, D.lst.injEq, D.fz.injEq, D.ref.injEq, HB.lst.injEq, List.cons.injEq, and_true, true_and, List.set_cons_zero, List.set_cons_succ, List.map_cons, List.map_nil, List.length_cons, List.length_nil, Nat.reduceAdd, Nat.reduceSub, Nat.sub_self, Nat.zero_add, List.replicate_zero, List.replicate_succ, List.append_nil, List.cons_append, List.nil_append, decide_eq_true_eq, decide_eq_false_iff_not, Bool.not_eq_true', Bool.not_eq_false', Bool.true_eq_false, Bool.false_eq_true, false_implies, forall_const, true_implies, reduceCtorEq, and_false, false_and, Bool.not_true, Bool.not_false, if_true, if_false, f1, f2, f3, itp]
    refine ⟨fun z => by simp at z, fun _ => ⟨ok_prs cs, ok_prs cs, ?_⟩⟩
    show ∃ b, D.bl (deq (.tup (prs cs)) (.tup (prs cs))) = D.bl b ∧ _
    rw [deq_prs]
    refine ⟨true, rfl, fun _ => ⟨ok_prs fs, ok_prs fs, ?_⟩, fun z => nomatch z⟩
    show (endsD h' X Q).rt (D.bl (deq (.tup (prs fs)) (.tup (prs fs)))) h'
    rw [deq_prs]
    exact rt_keep q
theorem rd_law (ds : List D) (h : DHp) (X : DX) (Q : DK) (hds : ds.length = 1) (c : ct_law ds h X Q) : tb_law (endsD h X Q) (startD N_law.length ds) h := by
  obtain ⟨ns, rfl, hl, q⟩ := c
  simp only [tb_law, startD, sSeq, sNil, sIf, sRet, sRetN, sSet, sAsg, sExpr, sNever, sFor, sNox, sBrk, sCont, sFldD, sAug, sAugS, dVar, dC, dOp, dI0, dII, dNeg, dInv, dAndV, dOrV, dNotV, dTst, dTru, dAnd, dOr, dNot, dIfE, dChn, dCall, dCallK, dMake, aNil, aCons, dTup, dLst, dLstH, dFldC, dCB, dBM, tgN, tgSub, iL, iT, iR1, iR2, DEnds.xx, dLc, dLcH, dYes, dSl, oNon, oSome, nI2, nTup, nLst, nLstH, mApp, wipeD, dIn, dIsN, dNotN, dAddH, dMulH, tru_bl, tru_int, add_int, add_tup, mul_int, len_tup, len_lst, len_fz, ne_int, eq_int, ne_bl, eq_bl, int_int, int_bl, ty_end, asL_lst, asL_fz, asS_tup, asS_lst, asS_fz, tgs_cons_eq, tgs_nil_eq, tg_tup_eq, tg_lst_eq, at_end, set_end, asS_end, asL_end, at_pre, set_pre, ty_pre, dTupRev, List.getElem?_cons_zero, List.getElem?_cons_succ, Option.some.injEq, exists_eq_left', exists_eq_left, exists_and_left, exists_and_right, and_assoc, D.int.injEq, D.bl.injEq, D.str.injEq, D.tup.injEq, D.lst.injEq, D.fz.injEq, D.ref.injEq, HB.lst.injEq, List.cons.injEq, and_true, true_and, List.set_cons_zero, List.set_cons_succ, List.map_cons, List.map_nil, List.length_cons, List.length_nil, Nat.reduceAdd, Nat.reduceSub, Nat.sub_self, Nat.zero_add, List.replicate_zero, List.replicate_succ, List.append_nil, List.cons_append, List.nil_append, decide_eq_true_eq, decide_eq_false_iff_not, Bool.not_eq_true', Bool.not_eq_false', Bool.true_eq_false, Bool.false_eq_true, false_implies, forall_const, true_implies, reduceCtorEq, and_false, false_and, Bool.not_true, Bool.not_false, if_true, if_false]
  exact ⟨ns, rfl, hl, rt_keep q⟩
end L2.MW.K47

namespace L2.MW.K47
open PySem PySem.Spec PyProof.Rows L2 L2.MW
def d_is_integer : He.DefD := ⟨("is_integer", none), "is_integer", "is_integer", defArgs s_is_integer, defBody s_is_integer, defScope s_is_integer, [], []⟩
def d_is_between : He.DefD := ⟨("is_between", none), "is_between", "is_between", defArgs s_is_between, defBody s_is_between, defScope s_is_between, [], []⟩
def d_is_subset : He.DefD := ⟨("is_subset", none), "is_subset", "is_subset", defArgs s_is_subset, defBody s_is_subset, defScope s_is_subset, [], []⟩
def d_mask_of : He.DefD := ⟨("mask_of", none), "mask_of", "mask_of", defArgs s_mask_of, defBody s_mask_of, defScope s_mask_of, [], []⟩
def d_is_pair : He.DefD := ⟨("is_pair", none), "is_pair", "is_pair", defArgs s_is_pair, defBody s_is_pair, defScope s_is_pair, [], []⟩
def d_first_wrong_pair : He.DefD := ⟨("first_wrong_pair", none), "first_wrong_pair", "first_wrong_pair", defArgs s_first_wrong_pair, defBody s_first_wrong_pair, defScope s_first_wrong_pair, [], []⟩
def d_leading_masks : He.DefD := ⟨("leading_masks", none), "leading_masks", "leading_masks", defArgs s_leading_masks, defBody s_leading_masks, defScope s_leading_masks, [], []⟩
def d_has_cycle : He.DefD := ⟨("has_cycle", none), "has_cycle", "has_cycle", defArgs s_has_cycle, defBody s_has_cycle, defScope s_has_cycle, [], []⟩
def d_Events_init : He.DefD := ⟨("Events", some "__init__"), "__init__", "Events.__init__", defArgs s_Events_init, defBody s_Events_init, defScope s_Events_init, [], []⟩
def d_is_state : He.DefD := ⟨("is_state", none), "is_state", "is_state", defArgs s_is_state, defBody s_is_state, defScope s_is_state, [], []⟩
def d__law_cell : He.DefD := ⟨("_law_cell", none), "_law_cell", "_law_cell", defArgs s__law_cell, defBody s__law_cell, defScope s__law_cell, [], []⟩
def d__law_row : He.DefD := ⟨("_law_row", none), "_law_row", "_law_row", defArgs s__law_row, defBody s__law_row, defScope s__law_row, [], []⟩
def d__law_pairs : He.DefD := ⟨("_law_pairs", none), "_law_pairs", "_law_pairs", defArgs s__law_pairs, defBody s__law_pairs, defScope s__law_pairs, [], []⟩
def d__law_parts : He.DefD := ⟨("_law_parts", none), "_law_parts", "_law_parts", defArgs s__law_parts, defBody s__law_parts, defScope s__law_parts, [], []⟩
def d__law_due : He.DefD := ⟨("_law_due", none), "_law_due", "_law_due", defArgs s__law_due, defBody s__law_due, defScope s__law_due, [], []⟩
def d__law_needs : He.DefD := ⟨("_law_needs", none), "_law_needs", "_law_needs", defArgs s__law_needs, defBody s__law_needs, defScope s__law_needs, [], []⟩
def d__law_in : He.DefD := ⟨("_law_in", none), "_law_in", "_law_in", defArgs s__law_in, defBody s__law_in, defScope s__law_in, [], []⟩
def d__law_state : He.DefD := ⟨("_law_state", none), "_law_state", "_law_state", defArgs s__law_state, defBody s__law_state, defScope s__law_state, [], []⟩
def d__law_values : He.DefD := ⟨("_law_values", none), "_law_values", "_law_values", defArgs s__law_values, defBody s__law_values, defScope s__law_values, [], []⟩
def d__law_asked : He.DefD := ⟨("_law_asked", none), "_law_asked", "_law_asked", defArgs s__law_asked, defBody s__law_asked, defScope s__law_asked, [], []⟩
def d_law : He.DefD := ⟨("law", none), "law", "law", defArgs s_law, defBody s_law, defScope s_law, [], []⟩
def fnL : List He.DefD := [d_is_integer, d_is_between, d_is_subset, d_mask_of, d_is_pair, d_first_wrong_pair, d_leading_masks, d_has_cycle, d_Events_init, d_is_state, d__law_cell, d__law_row, d__law_pairs, d__law_parts, d__law_due, d__law_needs, d__law_in, d__law_state, d__law_values, d__law_asked, d_law]
def faL : List He.Fa := [.glo "is_integer", .glo "is_between", .glo "is_subset", .glo "mask_of", .glo "is_pair", .glo "first_wrong_pair", .glo "leading_masks", .glo "has_cycle", .glo "is_state", .glo "_law_cell", .glo "_law_row", .glo "_law_pairs", .glo "_law_parts", .glo "_law_due", .glo "_law_needs", .glo "_law_in", .glo "_law_state", .glo "_law_values", .glo "_law_asked", .glo "law", .glo "Events", .mkr "Events", .free "bool", .free "enumerate", .free "int", .free "isinstance", .free "len", .free "list", .free "max", .free "min", .free "range", .free "reversed", .free "sorted", .free "tuple", .int "MOST_EVENTS" 39, .cls "Events", .noat "Events" "many", .noat "Events" "causes", .noat "Events" "conflicts"]
abbrev R : PySem.W.OpenRow := PySem.W.OpenLaw.row PySem.Challenge.rw_middlewebs_k47_state_judge
abbrev hk : PySem.W.Hook := He.hookD 4 faL fnL
def ob (s : PySem.W.SharedT) : He.AlD := He.obsDG 4 faL fnL (HandSHeadRun.getT s)
theorem ob_eq (s : PySem.W.SharedT) : ob s = hk.obs s.abs := He.obsDG_eq (HandSHeadRun.getT_eq s)
def names0 : List Str := ["__name__", "MiddleError", "InvalidEvents", "is_integer", "is_between", "is_subset", "mask_of", "MOST_EVENTS", "Events", "is_pair", "first_wrong_pair", "leading_masks", "has_cycle", "is_state", "_law_cell", "_law_row", "_law_pairs", "_law_parts", "_law_due", "_law_needs", "_law_in", "_law_state", "_law_values", "_law_asked"]
def names : List Str := names0
theorem run (w : World) : HandSHeadRun.RunEq R (PySem.W.view R.prog [27]) hk ob 1500 names w := by
  intro os
  kernel_rfl
theorem facts {P : Program} {w : World} {K : PySem.W.Frag} {h : Heap} {mg : Str → Option Value} {f : Addr} (X : K.In h) (Gn : h.Ns mainGlobals mg) (hfa : mg ("law" : Str) = some (.ref f)) (c : He.SaysD faL fnL K) :
    ∃ fd : FuncData, (∀ (s : Shared) (v : Value), BindsTo s fd ⟨[v], []⟩ [("script", v)]) ∧ ∀ base : Heap, FnOk P w K mg base (L2.CX P w) 8 f fd ["script"] (spOf K 1 ct_law) := by
  have G : Gm K mg := ⟨He.free_ok X Gn (c.fact 22 (f := .free "bool") rfl),
    He.free_ok X Gn (c.fact 23 (f := .free "enumerate") rfl),
    He.free_ok X Gn (c.fact 24 (f := .free "int") rfl),
    He.free_ok X Gn (c.fact 25 (f := .free "isinstance") rfl),
    He.free_ok X Gn (c.fact 26 (f := .free "len") rfl),
    He.free_ok X Gn (c.fact 27 (f := .free "list") rfl),
    He.free_ok X Gn (c.fact 28 (f := .free "max") rfl),
    He.free_ok X Gn (c.fact 29 (f := .free "min") rfl),
    He.free_ok X Gn (c.fact 30 (f := .free "range") rfl),
    He.free_ok X Gn (c.fact 31 (f := .free "reversed") rfl),
    He.free_ok X Gn (c.fact 32 (f := .free "sorted") rfl),
    He.free_ok X Gn (c.fact 33 (f := .free "tuple") rfl),
    He.int_ok X Gn (c.fact 34 (f := .int "MOST_EVENTS" 39) rfl),
    (fun c' hc => by
      simp only [fc_many, List.mem_cons, List.not_mem_nil, or_false] at hc
      subst hc
      exact ⟨He.cls_ok (c.fact 35 (f := .cls "Events") rfl), He.noat_ok (c.fact 36 (f := .noat "Events" "many") rfl)⟩),
    (fun c' hc => by
      simp only [fc_causes, List.mem_cons, List.not_mem_nil, or_false] at hc
      subst hc
      exact ⟨He.cls_ok (c.fact 35 (f := .cls "Events") rfl), He.noat_ok (c.fact 37 (f := .noat "Events" "causes") rfl)⟩),
    (fun c' hc => by
      simp only [fc_conflicts, List.mem_cons, List.not_mem_nil, or_false] at hc
      subst hc
      exact ⟨He.cls_ok (c.fact 35 (f := .cls "Events") rfl), He.noat_ok (c.fact 38 (f := .noat "Events" "conflicts") rfl)⟩),
    ⟨rfl⟩⟩
  obtain ⟨fd_is_integer, D_is_integer⟩ := c.def_ 0 (d := d_is_integer) rfl
  obtain ⟨fd_is_between, D_is_between⟩ := c.def_ 1 (d := d_is_between) rfl
  obtain ⟨fd_is_subset, D_is_subset⟩ := c.def_ 2 (d := d_is_subset) rfl
  obtain ⟨fd_mask_of, D_mask_of⟩ := c.def_ 3 (d := d_mask_of) rfl
  obtain ⟨fd_is_pair, D_is_pair⟩ := c.def_ 4 (d := d_is_pair) rfl
  obtain ⟨fd_first_wrong_pair, D_first_wrong_pair⟩ := c.def_ 5 (d := d_first_wrong_pair) rfl
  obtain ⟨fd_leading_masks, D_leading_masks⟩ := c.def_ 6 (d := d_leading_masks) rfl
  obtain ⟨fd_has_cycle, D_has_cycle⟩ := c.def_ 7 (d := d_has_cycle) rfl
  obtain ⟨fd_Events_init, D_Events_init⟩ := c.def_ 8 (d := d_Events_init) rfl
  obtain ⟨fd_is_state, D_is_state⟩ := c.def_ 9 (d := d_is_state) rfl
  obtain ⟨fd__law_cell, D__law_cell⟩ := c.def_ 10 (d := d__law_cell) rfl
  obtain ⟨fd__law_row, D__law_row⟩ := c.def_ 11 (d := d__law_row) rfl
  obtain ⟨fd__law_pairs, D__law_pairs⟩ := c.def_ 12 (d := d__law_pairs) rfl
  obtain ⟨fd__law_parts, D__law_parts⟩ := c.def_ 13 (d := d__law_parts) rfl
  obtain ⟨fd__law_due, D__law_due⟩ := c.def_ 14 (d := d__law_due) rfl
  obtain ⟨fd__law_needs, D__law_needs⟩ := c.def_ 15 (d := d__law_needs) rfl
  obtain ⟨fd__law_in, D__law_in⟩ := c.def_ 16 (d := d__law_in) rfl
  obtain ⟨fd__law_state, D__law_state⟩ := c.def_ 17 (d := d__law_state) rfl
  obtain ⟨fd__law_values, D__law_values⟩ := c.def_ 18 (d := d__law_values) rfl
  obtain ⟨fd__law_asked, D__law_asked⟩ := c.def_ 19 (d := d__law_asked) rfl
  obtain ⟨fd_law, D_law⟩ := c.def_ 20 (d := d_law) rfl
  have e := hfa.symm.trans (He.glo_ok X Gn (c.fact 19 (f := .glo "law") rfl))
  cases e
  refine ⟨fd_law, fun s v => FunD.bindsA (ps := ["script"]) D_law (fun _ _ _ _ _ _ us hl => match us, hl with | [_], _ => rfl) s [v] rfl, fun base => ?_⟩
  have O_is_integer : FnOk P w K mg base (L2.CX P w) 1 _ fd_is_integer P_is_integer (spOf K 1 ct_is_integer) := fn_ok D_is_integer sc_is_integer (bd_is_integer G ) rd_is_integer
  have F_is_integer : FnC P w K mg base 1 "is_integer" 1 ct_is_integer := ⟨_, fd_is_integer, P_is_integer, rfl, O_is_integer, He.glo_ok X Gn (c.fact 0 (f := .glo "is_integer") rfl), D_is_integer.kp, D_is_integer.bindsN (fun _ _ _ _ _ _ us hl => match us, hl with | [_], _ => rfl)⟩
  have O_is_between : FnOk P w K mg base (L2.CX P w) 2 _ fd_is_between P_is_between (spOf K 3 ct_is_between) := fn_ok D_is_between sc_is_between (bd_is_between G F_is_integer) rd_is_between
  have F_is_between : FnC P w K mg base 2 "is_between" 3 ct_is_between := ⟨_, fd_is_between, P_is_between, rfl, O_is_between, He.glo_ok X Gn (c.fact 1 (f := .glo "is_between") rfl), D_is_between.kp, D_is_between.bindsN (fun _ _ _ _ _ _ us hl => match us, hl with | [_, _, _], _ => rfl)⟩
  have O_is_subset : FnOk P w K mg base (L2.CX P w) 3 _ fd_is_subset P_is_subset (spOf K 2 ct_is_subset) := fn_ok D_is_subset sc_is_subset (bd_is_subset G F_is_between) rd_is_subset
  have F_is_subset : FnC P w K mg base 3 "is_subset" 2 ct_is_subset := ⟨_, fd_is_subset, P_is_subset, rfl, O_is_subset, He.glo_ok X Gn (c.fact 2 (f := .glo "is_subset") rfl), D_is_subset.kp, D_is_subset.bindsN (fun _ _ _ _ _ _ us hl => match us, hl with | [_, _], _ => rfl)⟩
  have O_mask_of : FnOk P w K mg base (L2.CX P w) 1 _ fd_mask_of P_mask_of (spOf K 1 ct_mask_of) := fn_ok D_mask_of sc_mask_of (bd_mask_of G ) rd_mask_of
  have F_mask_of : FnC P w K mg base 1 "mask_of" 1 ct_mask_of := ⟨_, fd_mask_of, P_mask_of, rfl, O_mask_of, He.glo_ok X Gn (c.fact 3 (f := .glo "mask_of") rfl), D_mask_of.kp, D_mask_of.bindsN (fun _ _ _ _ _ _ us hl => match us, hl with | [_], _ => rfl)⟩
  have O_is_pair : FnOk P w K mg base (L2.CX P w) 3 _ fd_is_pair P_is_pair (spOf K 3 ct_is_pair) := fn_ok D_is_pair sc_is_pair (bd_is_pair G F_is_between) rd_is_pair
  have F_is_pair : FnC P w K mg base 3 "is_pair" 3 ct_is_pair := ⟨_, fd_is_pair, P_is_pair, rfl, O_is_pair, He.glo_ok X Gn (c.fact 4 (f := .glo "is_pair") rfl), D_is_pair.kp, D_is_pair.bindsN (fun _ _ _ _ _ _ us hl => match us, hl with | [_, _, _], _ => rfl)⟩
  have O_first_wrong_pair : FnOk P w K mg base (L2.CX P w) 4 _ fd_first_wrong_pair P_first_wrong_pair (spOf K 3 ct_first_wrong_pair) := fn_ok D_first_wrong_pair sc_first_wrong_pair (bd_first_wrong_pair G F_is_pair) rd_first_wrong_pair
  have F_first_wrong_pair : FnC P w K mg base 4 "first_wrong_pair" 3 ct_first_wrong_pair := ⟨_, fd_first_wrong_pair, P_first_wrong_pair, rfl, O_first_wrong_pair, He.glo_ok X Gn (c.fact 5 (f := .glo "first_wrong_pair") rfl), D_first_wrong_pair.kp, D_first_wrong_pair.bindsN (fun _ _ _ _ _ _ us hl => match us, hl with | [_, _, _], _ => rfl)⟩
  have O_leading_masks : FnOk P w K mg base (L2.CX P w) 1 _ fd_leading_masks P_leading_masks (spOf K 2 ct_leading_masks) := fn_ok D_leading_masks sc_leading_masks (bd_leading_masks G ) rd_leading_masks
  have F_leading_masks : FnC P w K mg base 1 "leading_masks" 2 ct_leading_masks := ⟨_, fd_leading_masks, P_leading_masks, rfl, O_leading_masks, He.glo_ok X Gn (c.fact 6 (f := .glo "leading_masks") rfl), D_leading_masks.kp, D_leading_masks.bindsN (fun _ _ _ _ _ _ us hl => match us, hl with | [_, _], _ => rfl)⟩
  have O_has_cycle : FnOk P w K mg base (L2.CX P w) 2 _ fd_has_cycle P_has_cycle (spOf K 2 ct_has_cycle) := fn_ok D_has_cycle sc_has_cycle (bd_has_cycle G F_leading_masks) rd_has_cycle
  have F_has_cycle : FnC P w K mg base 2 "has_cycle" 2 ct_has_cycle := ⟨_, fd_has_cycle, P_has_cycle, rfl, O_has_cycle, He.glo_ok X Gn (c.fact 7 (f := .glo "has_cycle") rfl), D_has_cycle.kp, D_has_cycle.bindsN (fun _ _ _ _ _ _ us hl => match us, hl with | [_, _], _ => rfl)⟩
  have O_Events_init : FnOk P w K mg base (L2.CX P w) 5 _ fd_Events_init P_Events_init (spOf K 4 ct_Events_init) := fn_ok D_Events_init sc_Events_init (bd_Events_init G F_first_wrong_pair F_has_cycle F_is_between) rd_Events_init
  have M_Events : MkC P w K mg base 5 "Events" 4 ct_Events_init := ⟨_, fd_Events_init, P_Events_init, rfl, He.mkr_ok (c.fact 21 (f := .mkr "Events") rfl), O_Events_init, He.glo_ok X Gn (c.fact 20 (f := .glo "Events") rfl), D_Events_init.bindsN (fun _ _ _ _ _ _ us hl => match us, hl with | [_, _, _, _], _ => rfl)⟩
  have O_is_state : FnOk P w K mg base (L2.CX P w) 4 _ fd_is_state P_is_state (spOf K 2 ct_is_state) := fn_ok D_is_state sc_is_state (bd_is_state G F_is_subset F_mask_of) rd_is_state
  have F_is_state : FnC P w K mg base 4 "is_state" 2 ct_is_state := ⟨_, fd_is_state, P_is_state, rfl, O_is_state, He.glo_ok X Gn (c.fact 8 (f := .glo "is_state") rfl), D_is_state.kp, D_is_state.bindsN (fun _ _ _ _ _ _ us hl => match us, hl with | [_, _], _ => rfl)⟩
  have K_is_state : FnK P w K mg base 4 "is_state" 2 ["value", "events"] [1, 0] ct_is_state := ⟨_, fd_is_state, P_is_state, rfl, O_is_state, He.glo_ok X Gn (c.fact 8 (f := .glo "is_state") rfl), D_is_state.kp, fun s ws _ hl => bindsK D_is_state s (match ws, hl with | [_, _], _ => fun _ _ _ _ _ _ => rfl)⟩
  have O__law_cell : FnOk P w K mg base (L2.CX P w) 1 _ fd__law_cell P__law_cell (spOf K 2 ct__law_cell) := fn_ok D__law_cell sc__law_cell (bd__law_cell G ) rd_law_cell
  have F__law_cell : FnC P w K mg base 1 "_law_cell" 2 ct__law_cell := ⟨_, fd__law_cell, P__law_cell, rfl, O__law_cell, He.glo_ok X Gn (c.fact 9 (f := .glo "_law_cell") rfl), D__law_cell.kp, D__law_cell.bindsN (fun _ _ _ _ _ _ us hl => match us, hl with | [_, _], _ => rfl)⟩
  have O__law_row : FnOk P w K mg base (L2.CX P w) 2 _ fd__law_row P__law_row (spOf K 4 ct__law_row) := fn_ok D__law_row sc__law_row (bd__law_row G F__law_cell) rd_law_row
  have F__law_row : FnC P w K mg base 2 "_law_row" 4 ct__law_row := ⟨_, fd__law_row, P__law_row, rfl, O__law_row, He.glo_ok X Gn (c.fact 10 (f := .glo "_law_row") rfl), D__law_row.kp, D__law_row.bindsN (fun _ _ _ _ _ _ us hl => match us, hl with | [_, _, _, _], _ => rfl)⟩
  have O__law_pairs : FnOk P w K mg base (L2.CX P w) 1 _ fd__law_pairs P__law_pairs (spOf K 3 ct__law_pairs) := fn_ok D__law_pairs sc__law_pairs (bd__law_pairs G ) rd_law_pairs
  have F__law_pairs : FnC P w K mg base 1 "_law_pairs" 3 ct__law_pairs := ⟨_, fd__law_pairs, P__law_pairs, rfl, O__law_pairs, He.glo_ok X Gn (c.fact 11 (f := .glo "_law_pairs") rfl), D__law_pairs.kp, D__law_pairs.bindsN (fun _ _ _ _ _ _ us hl => match us, hl with | [_, _, _], _ => rfl)⟩
  have O__law_parts : FnOk P w K mg base (L2.CX P w) 3 _ fd__law_parts P__law_parts (spOf K 1 ct__law_parts) := fn_ok D__law_parts sc__law_parts (bd__law_parts G F__law_pairs F__law_row) rd_law_parts
  have F__law_parts : FnC P w K mg base 3 "_law_parts" 1 ct__law_parts := ⟨_, fd__law_parts, P__law_parts, rfl, O__law_parts, He.glo_ok X Gn (c.fact 12 (f := .glo "_law_parts") rfl), D__law_parts.kp, D__law_parts.bindsN (fun _ _ _ _ _ _ us hl => match us, hl with | [_], _ => rfl)⟩
  have O__law_due : FnOk P w K mg base (L2.CX P w) 1 _ fd__law_due P__law_due (spOf K 4 ct__law_due) := fn_ok D__law_due sc__law_due (bd__law_due G ) rd_law_due
  have F__law_due : FnC P w K mg base 1 "_law_due" 4 ct__law_due := ⟨_, fd__law_due, P__law_due, rfl, O__law_due, He.glo_ok X Gn (c.fact 13 (f := .glo "_law_due") rfl), D__law_due.kp, D__law_due.bindsN (fun _ _ _ _ _ _ us hl => match us, hl with | [_, _, _, _], _ => rfl)⟩
  have O__law_needs : FnOk P w K mg base (L2.CX P w) 1 _ fd__law_needs P__law_needs (spOf K 2 ct__law_needs) := fn_ok D__law_needs sc__law_needs (bd__law_needs G ) rd_law_needs
  have F__law_needs : FnC P w K mg base 1 "_law_needs" 2 ct__law_needs := ⟨_, fd__law_needs, P__law_needs, rfl, O__law_needs, He.glo_ok X Gn (c.fact 14 (f := .glo "_law_needs") rfl), D__law_needs.kp, D__law_needs.bindsN (fun _ _ _ _ _ _ us hl => match us, hl with | [_, _], _ => rfl)⟩
  have O__law_in : FnOk P w K mg base (L2.CX P w) 1 _ fd__law_in P__law_in (spOf K 2 ct__law_in) := fn_ok D__law_in sc__law_in (bd__law_in G ) rd_law_in
  have F__law_in : FnC P w K mg base 1 "_law_in" 2 ct__law_in := ⟨_, fd__law_in, P__law_in, rfl, O__law_in, He.glo_ok X Gn (c.fact 15 (f := .glo "_law_in") rfl), D__law_in.kp, D__law_in.bindsN (fun _ _ _ _ _ _ us hl => match us, hl with | [_, _], _ => rfl)⟩
  have O__law_state : FnOk P w K mg base (L2.CX P w) 2 _ fd__law_state P__law_state (spOf K 4 ct__law_state) := fn_ok D__law_state sc__law_state (bd__law_state G F__law_needs) rd_law_state
  have F__law_state : FnC P w K mg base 2 "_law_state" 4 ct__law_state := ⟨_, fd__law_state, P__law_state, rfl, O__law_state, He.glo_ok X Gn (c.fact 16 (f := .glo "_law_state") rfl), D__law_state.kp, D__law_state.bindsN (fun _ _ _ _ _ _ us hl => match us, hl with | [_, _, _, _], _ => rfl)⟩
  have O__law_values : FnOk P w K mg base (L2.CX P w) 2 _ fd__law_values P__law_values (spOf K 4 ct__law_values) := fn_ok D__law_values sc__law_values (bd__law_values G F__law_in) rd_law_values
  have F__law_values : FnC P w K mg base 2 "_law_values" 4 ct__law_values := ⟨_, fd__law_values, P__law_values, rfl, O__law_values, He.glo_ok X Gn (c.fact 17 (f := .glo "_law_values") rfl), D__law_values.kp, D__law_values.bindsN (fun _ _ _ _ _ _ us hl => match us, hl with | [_, _, _, _], _ => rfl)⟩
  have O__law_asked : FnOk P w K mg base (L2.CX P w) 7 _ fd__law_asked P__law_asked (spOf K 1 ct__law_asked) := fn_ok D__law_asked sc__law_asked (bd__law_asked G M_Events F__law_due F__law_parts F__law_row F__law_state F__law_values F_is_state K_is_state) rd_law_asked
  have F__law_asked : FnC P w K mg base 7 "_law_asked" 1 ct__law_asked := ⟨_, fd__law_asked, P__law_asked, rfl, O__law_asked, He.glo_ok X Gn (c.fact 18 (f := .glo "_law_asked") rfl), D__law_asked.kp, D__law_asked.bindsN (fun _ _ _ _ _ _ us hl => match us, hl with | [_], _ => rfl)⟩
  have O_law : FnOk P w K mg base (L2.CX P w) 8 _ fd_law P_law (spOf K 1 ct_law) := fn_ok D_law sc_law (bd_law G F__law_asked) rd_law
  exact O_law
end L2.MW.K47
open PySem PySem.W PySem.Calls PyProof.Rows
theorem PySem.Challenge.cw_middlewebs_k47_state_judge_holds : PySem.Challenge.rw_middlewebs_k47_state_judge.Holds := by
  w_on; o_law
  refine HandSHeadRun.head_any (r := OpenLaw.row PySem.Challenge.rw_middlewebs_k47_state_judge) (q := view (OpenLaw.row PySem.Challenge.rw_middlewebs_k47_state_judge).prog [27]) (H := L2.MW.K47.hk) (ob := L2.MW.K47.ob) (M := 1500) (loose := L2.MW.K47.names) (d := HandSHeadRun.topDef (OpenLaw.row PySem.Challenge.rw_middlewebs_k47_state_judge).prog 27) (kwd := []) L2.MW.K47.ob_eq
    (by kernel_rfl) (fun s => by kernel_rfl) L2.MW.K47.run (by kernel_rfl) (by kernel_rfl) (by kernel_rfl) (by rfl) (by first | assumption | decide +kernel) (by decide +kernel) ⟨rfl, rfl, rfl, rfl, rfl, by decide +kernel⟩ ?hw ?hc
  case hw => w_witness2
  case hc =>
    refine L2.walk_ofE (l := PySem.Challenge.rw_middlewebs_k47_state_judge) (n := 63) (k := 8) (x := "script") (CX := L2.CX0) rfl (by decide) (by kernel_rfl) ⟨rfl, by decide, by decide⟩ ?F (fun _ _ _ _ z => z)
    intro w mg fa h Y G hmg0
    obtain ⟨K, KX, c⟩ := Y
    have hmg : mg ("law" : PySem.Str) = some (.ref fa) := by
      have e : (HandSHeadRun.topDef (OpenLaw.row PySem.Challenge.rw_middlewebs_k47_state_judge).prog 27).name = ("law" : PySem.Str) := by kernel_rfl
      rw [← e]
      exact hmg0
    obtain ⟨fd, hb, hF⟩ := L2.MW.K47.facts (P := (PySem.Challenge.rw_middlewebs_k47_state_judge).prog) (w := w) KX G hmg c
    exact ⟨K, fd, fun vs H Q _ => L2.MW.spOf K 1 L2.MW.K47.ct_law vs H Q fun _ _ _ => False, KX, hb, fun H a ns hl _ hS => L2.MW.law_sp (c := L2.MW.K47.ct_law) hS ⟨ns, rfl, hl, rfl⟩, fun base _ _ => L2.MW.cx0 (hF base)⟩

